/- The executor, parts 8, 9, M, C, 10, 11, 12.
  Conditions: none. -/
import Derived.Test.YtcjhhnoaoldcmaaGreatXm1
import Derived.Lib.AppendZerosOnto
import Derived.Lib.Overlaps
import Derived.RangeFuncRecord
import Derived.LoopNIn
import Derived.Scope
import Derived.RangeFuncNested
set_option linter.all false
noncomputable section PartXm8
namespace Go.Xe
open Go.RowKit
section
variable {P :Ax}{B:BS}{w0:Be}{σ:Sg}{hp:Hp}{w:Be}
def j2 (hp:Hp)(size:Nat)(x:Aw):Bc (Nat×Af):=
 match x with
 | .slice none n _=>bif Nat.beq n 0 then some (0,[])else none| .slice (some ⟨i,o,none⟩) n _=>match hp.m.get i with
  |some b=>match rdC b with
   | some (c, k, _) => bif Nat.ble (o + n * size) k then
     match d6 c o (n*size)with
     |some vs=>some (n,vs)|none=>none
    else none
   |none=>none
  |none=>none
 | .slice (some ⟨0,0,some 0⟩) 0 _=>some (0,[])|_=>none
variable {x x':Aw}{vs:Af}
theorem iQ {size n:Nat}(h:j2 hp size x=some (n,vs))(hx:VR σ x x')(hw:HR B w0 σ hp w):∃us,VRL σ vs us/\us.length=n*size/\(∃b c,x'= .slice b n c/\(b=none->n=0/\us=[])/\ ∀a,b=some a-> ∀j u,us[j]? =some u->w.cell? (a.add j)=some u):=by
 unfold j2 at h;split at h
 ·rename_i k c;cases hb:Nat.beq k 0 with
  |false=>grind|true=>rw[hb,cond_true]at h;cases h;have hk:=Nat.eq_of_beq_eq_true hb;subst hk;cases hx;exact⟨[],MF σ,by simp,none,c,rfl,(fun _=>⟨rfl,rfl⟩),(fun a ha=>by cases ha)⟩
 ·rename_i i o k cap;split at h
  ·rename_i b f;split at h
   ·rename_i c m z hr;cases hb:Nat.ble (o+k*size) m with
    |false=>grind|true=>
     rw[hb,cond_true]at h;split at h
     ·rename_i r hl;cases h;cases hx with
      |slice _ _ p _ _ c' hp' hc g=>
      obtain⟨us,h1,h2,h3⟩:=hw.cellsR f hr (Nat.le_of_ble_eq_true hb) hl hp';grind
     ·cases h
   ·cases h
  ·cases h
 ·simp only[Option.some.injEq,Prod.mk.injEq]at h;obtain⟨rfl,rfl⟩:=h;cases hx with
  |vague q c'=>exact⟨[],MF σ,by simp,_,c',rfl,(fun h=>by cases h),(fun a _ j u l=>by simp at l)⟩
 ·cases h
variable {us:Af}
def dY {size n:Nat}{b:Ar}{c:Nat}(f:us.length=n*size)(hn:b=none->n=0/\us=[])(hs:∀a,b=some a-> ∀j u,us[j]? =some u->w.cell? (a.add j)=some u):(Builtin.firstCells size n (.slice b n c)).run P w= .ok us.toArray w:=by
 cases b with
 |none=>obtain⟨rfl,rfl⟩:=hn rfl;exact run_firstCells_none w size 0 0 c
 |some a=>exact run_firstCells_some w size n a n c us f (hs a rfl)
variable {w':Be}
def M9 (t u ty e l:Ay)(i:Bb)(ht:P.underlying t=some (.slice e))(o:P.underlying u=some (.slice l))(hi:P.info? e=some i)(a:Addr)(f g n c:Nat)(b:Ar)(us:Af)(hf:(Builtin.firstCells i.size n (.slice b n c)).run P w= .ok us.toArray w)(h:f+n<=g)(j:(storeCells (a.add (f*i.size)) us).run P w= .ok () w'):(Builtin.append_ #[t,u] ty #[.slice (some a) f g,.slice b n c]).run P w= .ok (.slice (some a) (f+n) g) w':=by simp[Builtin.append_,run_underlying ht,run_underlying o,sizeOf,typeInfo,hi,Builtin.lenOf,h,hf,j]
theorem U9 (t u ty e s:Ay)(i:Bb)(z:Aw)(ht:P.underlying t=some (.slice e))(A:P.underlying u=some (.slice s))(hi:P.info? e=some i)(hz:i.zero=some z)(g:Ar)(a f n c:Nat)(b:Ar)(h us:Af)(p:∀w',w'.heap=w.heap->(Builtin.firstCells i.size a (.slice g a f)).run P w'= .ok h.toArray w')(hf:∀w',w'.heap=w.heap->(Builtin.firstCells i.size n (.slice b n c)).run P w'= .ok us.toArray w')(C:f<a+n)(y:((a+n:Nat):Int)<=9223372036854775807)(q:Builtin.nextslicecap (a+n) f*i.bytes<=281474976710656):(Builtin.append_ #[t,u] ty #[.slice g a f,.slice b n c]).run P w= .ok (.slice (some ⟨w.heap.size,0,none⟩) (a+n) (grownCap w (a+n) f e)) (w.drew.alloc (.cells (h.toArray++us.toArray++Builtin.zeroCells z.cells (grownCap w (a+n) f e-(a+n))) e)):=by
 have hn:¬(a+n<=f):=by omega
 have l:¬(9223372036854775807<((a:Int)+(n:Int))):=by omega
 have j:¬(281474976710656<Builtin.nextslicecap (a+n) f*i.bytes):=by omega
 have r:=hf w.drew rfl;have o:=p w.drew rfl;simp[Builtin.append_,run_underlying ht,run_underlying A,sizeOf,typeInfo,zeroValue,hi,hz,Builtin.lenOf,hn,l,j,Question.forced,r,o,newRow,grownCap];grind
def HR.kill (h:HR B w0 σ hp w)(i:Nat):HR B w0 σ {hp with m:=hp.m.set i none} w:=by
 refine⟨h.os,h.tape,h.output,h.size,h.old,h.kept,h.fresh,?_,?_⟩
 ·intro j b hj;simp only[Mw]at hj;by_cases g:j=i
  ·rw[if_pos g]at hj;cases hj
  ·rw[if_neg g]at hj;exact h.live j b hj
 ·intro a b b1 b2 p q ha hb l n o;simp only[Mw]at ha hb;by_cases c:a=i
  ·rw[if_pos c]at ha;cases ha
  ·rw[if_neg c]at ha;by_cases f:b=i
   ·rw[if_pos f]at hb;cases hb
   ·rw[if_neg f]at hb;exact h.inj a b _ _ p q ha hb l n o
theorem HR.grown (hw:HR B w0 σ hp w)(g:VRL σ vs us)(a:Al)(c:Ao)(hc:∀j,j<vs.length->c.get j=vs[j]?)(e z:Nat):HR B w0 (σ.ext hp.nx ⟨w.heap.size,0,us.length+a.size,z⟩) ⟨hp.m.set hp.nx (some (.cells c vs.length e z)),hp.nx+1⟩ (w.drew.alloc (.cells (us.toArray++a) e)):=by
 have:=hw.drew.alloc c vs.length e z (us.toArray++a) (by rw[g.1];simp) (fun j hj=>by
  have f:j<us.length:=by rw[<-g.1];exact hj
  refine⟨vs[j],us[j],by rw[hc j hj];simp[hj],?_,g.2 j _ _ (by simp[hj]) (by simp[f])⟩;simp[Array.getElem?_append,f])
 simp_all
def HR.of_same (h:HR B w0 σ hp w){hp2:Hp}(hn:hp2.nx=hp.nx)(hm:∀i,hp2.m.get i=hp.m.get i):HR B w0 σ hp2 w:=
 ⟨h.os,h.tape,h.output,h.size,h.old,h.kept,fun i hi=>h.fresh i (by rw[<-hn];exact hi),fun i b a=>h.live i b (by rw[<-hm];exact a),
  fun i j b b' p q hi hj=>h.inj i j b b' p q (by rw[<-hm];exact hi) (by rw[<-hm];exact hj)⟩
def y9 (P:Ax)(hp:Hp)(t u:Ay)(s x:Aw):Bc (Aw×Hp):=
 match P.underlying t,P.underlying u with
 |some (.slice e),some (.slice _)=>match P.info? e with
  |none=>none|some ie=>match ie.zero with
   |none=>none
   | some z => bif Nat.beq z.cells.toList.length ie.size && Nat.ble ie.bytes 1048576 then
     match j2 hp ie.size x with
     |none=>none|some (n,news)=>match s with
      | .slice none sLen sCap => bif Nat.beq sLen 0 && Nat.beq sCap 0 && Nat.ble n 67108864 then
        bif Nat.beq n 0 then some (.slice none 0 0,hp)
        else some (.slice (some ⟨hp.nx,0,none⟩) n (c8 n 0),hp.new news e ie.size)
       else none
      | .slice (some ⟨i,o,none⟩) sLen sCap=>match hp.m.get i with
       |some (.cells c k e' z')=>
        bif Nat.ble (sLen+n) 67108864&&news.all Value.oneCell' then
         bif Nat.beq n 0 then
          bif Nat.ble sLen sCap then some (.slice (some ⟨i,o,none⟩) sLen sCap,hp)else none
         else
          bif Nat.ble unk sCap then
           bif Nat.ble 1 (D1 sCap)&&Nat.ble (D1 sCap) (sLen+n)then
            bif Nat.ble (o+sLen*ie.size) k then
             match d6 c o (sLen*ie.size)with
             |none=>none|some olds=>some (.slice (some ⟨hp.nx,0,none⟩) (sLen+n) (c8 (sLen+n) 0),hp.new (olds++news) e ie.size)
            else none
           else bif Nat.beq z' ie.size&&Nat.beq e' e&&Nat.ble (o+sLen*ie.size) k then
            bif Nat.ble (sLen+n) (L6 sCap)then
             some (.slice (some ⟨i,o,none⟩) (sLen+n) sCap,jS hp i c (Nat.max k (o+(sLen+n)*ie.size)) e' z' (o+sLen*ie.size) news)
            else
            match d6 c o (sLen*ie.size)with
            |none=>none|some olds=>
             (bif Nat.beq o 0 then fill c (sLen*ie.size) news else fill (fill .e 0 olds) (sLen*ie.size) news).force fun ct=>
              some (.slice (some ⟨hp.nx,0,none⟩) (sLen+n) (c8 (sLen+n) 0),⟨(hp.m.set i none).set hp.nx (some (.cells ct ((sLen+n)*ie.size) e' z')),hp.nx+1⟩)
           else none
          else bif Nat.ble (sLen+n) sCap then
           bif Nat.ble (o+(sLen+n)*ie.size) k then
            some (.slice (some ⟨i,o,none⟩) (sLen+n) sCap,jS hp i c k e' z' (o+sLen*ie.size) news)
           else none
          else
           bif Nat.ble (o+sLen*ie.size) k then
            match d6 c o (sLen*ie.size)with
            |none=>none|some olds=>some (.slice (some ⟨hp.nx,0,none⟩) (sLen+n) (c8 (sLen+n) 0),hp.new (olds++news) e ie.size)
           else none
        else none
       |some (.ro c k _ _)=>
        bif Nat.ble (sLen+n) 67108864&&Nat.ble sLen sCap&& !Nat.ble unk sCap then
         bif Nat.beq n 0 then some (.slice (some ⟨i,o,none⟩) sLen sCap,hp)
         else bif Nat.ble (sLen+n) sCap then none
         else bif Nat.ble (o+sLen*ie.size) k then
          match d6 c o (sLen*ie.size)with
          |none=>none|some olds=>some (.slice (some ⟨hp.nx,0,none⟩) (sLen+n) (c8 (sLen+n) 0),hp.new (olds++news) e ie.size)
         else none
        else none
       |_=>none
      |_=>none
    else none
 |_,_=>none
def i8 {c:Ao}:∀ {vs:Af} {o:Nat},(∀j,j<vs.length->c.get (o+j)=vs[j]?)->d6 c o vs.length=some vs
 | [],o,_=>rfl|v::vs,o,h=>by simp only[List.length_cons,d6];have h0:=h 0 (by simp);simp only[Nat.add_zero,List.getElem?_cons_zero]at h0;rw[h0];have:=i8 (c:=c) (vs:=vs) (o:=o+1) (fun j hj=>by have:=h (j+1) (by simp;omega);rw[show o+(j+1)=o+1+j by omega]at this;simpa using this);rw[this]
theorem VR.unkSlice (σ:Sg)(i:Nat)(p:Pl)(hd:p.dl=0){l c':Nat}(hl:l<=c')(hb:c'*p.esz<=p.siz):VR (σ.ext i p) (.slice (some ⟨i,0,none⟩) l (c8 l 0)) (.slice (some ⟨p.blk,0,none⟩) l c'):=by have:=VR.slice (σ:=σ.ext i p) i 0 p l (c8 l 0) c' (Mp _ _ _) (.inr ⟨j1 _ _,by rw[G2 E6];exact hl,.inl (G1 E6),by rw[hd];omega⟩) hl;grind
def eH (h:w'.heap=w.heap)(a:Addr):w'.cell? a=w.cell? a:=by unfold World.cell?;rw[h]
set_option maxHeartbeats 1000000 in
theorem oT {t u:Ay}{s s':Aw}{v:Aw}{hp':Hp}(h:y9 P hp t u s x=some (v,hp'))(hs:VR σ s s')(hx:VR σ x x')(hw:HR B w0 σ hp w)(ty:Ay):MOK hp B w0 σ v hp' ((Builtin.append_ #[t,u] ty #[s',x']).run P w):=by
 unfold y9 at h;split at h;case h_2=>cases h
 rename_i e e2 ht O;split at h
 ·cases h
 rename_i ie H;split at h
 ·cases h
 rename_i z hz;cases hb:Nat.beq z.cells.toList.length ie.size&&Nat.ble ie.bytes 1048576 with
 |false=>grind|true=>
 rw[hb,cond_true]at h;simp only[Bool.and_eq_true]at hb;have ez:z.cells.size=ie.size:=by simp_all
 have eb:=Nat.le_of_ble_eq_true hb.2;split at h
 ·cases h
 rename_i n news bk;obtain⟨us,hv,C,b,c,rfl,aw,ax⟩:=iQ bk hx hw;have N:news.length=n*ie.size:=by rw[hv.1];exact C
 have hf:(Builtin.firstCells ie.size n (.slice b n c)).run P w= .ok us.toArray w:=dY C aw ax;have ak:∀w':Be,w'.heap=w.heap->(Builtin.firstCells ie.size n (.slice b n c)).run P w'= .ok us.toArray w':=fun w' hh=>
  dY C aw (fun a ha j u O=>by rw[eH hh];exact ax a ha j u O)
 split at h
 ·rename_i f g;cases h0:Nat.beq f 0&&Nat.beq g 0&&Nat.ble n 67108864 with
  |false=>grind|true=>
  rw[h0,cond_true]at h;simp only[Bool.and_eq_true]at h0;have e1:=Nat.eq_of_beq_eq_true h0.1.1;have bi:=Nat.eq_of_beq_eq_true h0.1.2;have hn:=Nat.le_of_ble_eq_true h0.2;subst e1;subst bi;cases hs;cases r:Nat.beq n 0 with
  |true=>rw[r,cond_true]at h;cases h;have:=Nat.eq_of_beq_eq_true r;subst this;have W:us=[]:=List.eq_nil_of_length_eq_zero (by simpa using C);subst W;refine⟨σ,.slice none 0 0,w,?_,Mq _ σ,.nils 0 0,hw⟩;simp[Builtin.append_,run_underlying ht,run_underlying O,sizeOf,typeInfo,H,Builtin.lenOf,hf]
  |false=>
   rw[r,cond_false]at h;cases h;have ad:n≠0:=fun e=>by rw[e]at r;cases r
   have hr:=U9 (P:=P) (w:=w) t u ty e e2 ie z ht O H hz none 0 0 n c b [] us (fun w' _=>run_firstCells_none w' ie.size 0 0 0) ak (by omega) (by omega)
    (growslice_fits (by omega) (by have:=Nat.mul_le_mul (show 0+n<=67108864 by omega) eb;omega))
   simp only[Nat.zero_add]at hr;have hge:=grownCap_ge w n 0 e;have K:=hw.grown hv (Builtin.zeroCells z.cells (grownCap w n 0 e-n)) (fill .e 0 news) (fun j hj=>v8 news j hj) e ie.size;refine⟨_,_,_,hr,hw.le_new _,VR.unkSlice σ hp.nx ⟨w.heap.size,0,us.length+(Builtin.zeroCells z.cells (grownCap w n 0 e-n)).size,ie.size⟩ rfl hge ?_,?_⟩
   ·show grownCap w n 0 e*ie.size<=us.length+_;rw[size_zeroCells,C,ez,<-Nat.add_mul];grind
   ·simpa [Hp.new]using K
 ·rename_i i o f g;split at h;case h_3=>cases h
  case h_2=>
   rename_i k0 k e' z' hg;cases h0:Nat.ble (f+n) 67108864&&Nat.ble f g&& !Nat.ble unk g with
   |false=>grind|true=>
   rw[h0,cond_true]at h;simp only[Bool.and_eq_true,Bool.not_eq_true']at h0;obtain⟨⟨g1,g2⟩,g3⟩:=h0;have hn:=Nat.le_of_ble_eq_true g1;have g3:¬unk<=g:=fun h=>by rw[Nat.ble_eq_true_of_le h]at g3;cases g3
   cases hs with
   |slice _ _ p _ _ c' E R al=>
   obtain⟨rfl,_⟩:g=c'/\g<unk:=by grind
   cases r:Nat.beq n 0 with
   |true=>rw[r,cond_true]at h;have:=Nat.eq_of_beq_eq_true r;subst this;have W:us=[]:=List.eq_nil_of_length_eq_zero (by simpa using C);subst W;cases h;refine⟨σ,_,w,M9 t u ty e e2 ie ht O H _ f g 0 c b [] hf (by omega) (by simp[storeCells]),Mq _ σ,.slice i o p f g g E R al,hw⟩
   |false=>
   rw[r,cond_false]at h;have ad:n≠0:=fun e=>by rw[e]at r;cases r
   cases ap:Nat.ble (f+n) g with
   |true=>grind|false=>
   rw[ap,cond_false]at h;have hlt:g<f+n:=Nat.lt_of_not_le fun h=>by rw[Nat.ble_eq_true_of_le h]at ap;cases ap
   cases A:Nat.ble (o+f*ie.size) k with
   |false=>grind|true=>
   rw[A,cond_true]at h;have A:=Nat.le_of_ble_eq_true A;split at h
   ·cases h
   rename_i q I;simp only[Option.some.injEq,Prod.mk.injEq]at h;obtain⟨rfl,rfl⟩:=h;obtain⟨y,au,D,ae⟩:=hw.cellsR hg rfl A I E;have aj:∀w':Be,w'.heap=w.heap->(Builtin.firstCells ie.size f (.slice (some ⟨p.blk,p.dl+o,none⟩) f g)).run P w'= .ok y.toArray w':=fun w' hh=>
    run_firstCells_some w' ie.size f _ f g y D (fun j u O=>by rw[eH hh];exact ae j u O)
   have hr:=U9 (P:=P) (w:=w) t u ty e e2 ie z ht O H hz (some ⟨p.blk,p.dl+o,none⟩) f g n c b y us aj ak hlt (by omega)
    (growslice_fits hlt (by have:=Nat.mul_le_mul hn eb;omega))
   have hge:=grownCap_ge w (f+n) g e;have G:=au.append hv;have ah:(q++news).length=(f+n)*ie.size:=by rw[G.1,List.length_append,D,C,Nat.add_mul]
   have K:=hw.grown G (Builtin.zeroCells z.cells (grownCap w (f+n) g e-(f+n))) (fill .e 0 (q++news)) (fun j hj=>v8 _ j hj) e ie.size;have aq:(y++us).length=(f+n)*ie.size:=by rw[<-G.1];exact ah
   rw[show(y++us).toArray=y.toArray++us.toArray by simp]at K;refine⟨_,_,_,hr,hw.le_new _,VR.unkSlice σ hp.nx ⟨w.heap.size,0,(y++us).length+(Builtin.zeroCells z.cells (grownCap w (f+n) g e-(f+n))).size,ie.size⟩ rfl hge ?_,by simpa [Hp.new]using K⟩;show grownCap w (f+n) g e*ie.size<=(y++us).length+_;rw[size_zeroCells,aq,ez,<-Nat.add_mul];grind
  rename_i k0 k e' z' hg;cases h0:Nat.ble (f+n) 67108864&&news.all Value.oneCell' with
  |false=>rw[h0]at h;cases h
  |true=>
  rw[h0,cond_true]at h;simp only[Bool.and_eq_true]at h0;have hn:=Nat.le_of_ble_eq_true h0.1;have U:=hv.all_oneCell h0.2;cases hs with
  |slice _ _ p _ _ c' E R al=>
  obtain⟨k1,k2⟩:=hw.place hg E;cases r:Nat.beq n 0 with
  |true=>
   rw[r,cond_true]at h;have:=Nat.eq_of_beq_eq_true r;subst this;have W:us=[]:=List.eq_nil_of_length_eq_zero (by simpa using C);subst W;cases X:Nat.ble f g with
   |false=>simp_all|true=>rw[X,cond_true]at h;simp only[Option.some.injEq,Prod.mk.injEq]at h;obtain⟨rfl,rfl⟩:=h;refine⟨σ,_,w,M9 t u ty e e2 ie ht O H _ f c' 0 c b [] hf (by omega) (by simp[storeCells]),Mq _ σ,.slice i o p f g c' E R al,hw⟩
  | false =>
  rw[r,cond_false]at h;have ad:n≠0:=fun e=>by rw[e]at r;cases r
  have ab:∀q:Af,d6 k0 o (f*ie.size)=some q->o+f*ie.size<=k->c'<f+n-> ∀(Z:Hp),HR B w0 σ Z w-> ∀ct:Ao,(∀j,j<(q++news).length->ct.get j=(q++news)[j]?)->
    ∀ex zx,ex=e->zx=ie.size->Z.nx=hp.nx->
    MOK hp B w0 σ (.slice (some ⟨hp.nx,0,none⟩) (f+n) (c8 (f+n) 0)) ⟨Z.m.set hp.nx (some (.cells ct ((f+n)*ie.size) ex zx)),hp.nx+1⟩
     ((Builtin.append_ #[t,u] ty #[.slice (some ⟨p.blk,p.dl+o,none⟩) f c',.slice b n c]).run P w):=by
   rintro q I A hlt Z bm ct ai ex zx rfl rfl bl;obtain⟨y,au,D,ae⟩:=hw.cells hg A I E;have aj:∀w':Be,w'.heap=w.heap->(Builtin.firstCells ie.size f (.slice (some ⟨p.blk,p.dl+o,none⟩) f c')).run P w'= .ok y.toArray w':=fun w' hh=>
    run_firstCells_some w' ie.size f _ f c' y D (fun j u O=>by rw[eH hh];exact ae j u O)
   have hr:=U9 (P:=P) (w:=w) t u ty ex e2 ie z ht O H hz (some ⟨p.blk,p.dl+o,none⟩) f c' n c b y us aj ak hlt (by omega)
    (growslice_fits hlt (by have:=Nat.mul_le_mul hn eb;omega))
   have hge:=grownCap_ge w (f+n) c' ex;have G:=au.append hv;have ah:(q++news).length=(f+n)*ie.size:=by rw[G.1,List.length_append,D,C,Nat.add_mul]
   have K:=bm.grown G (Builtin.zeroCells z.cells (grownCap w (f+n) c' ex-(f+n))) ct ai ex ie.size;rw[ah,bl]at K;have aq:(y++us).length=(f+n)*ie.size:=by grind
   rw[show(y++us).toArray=y.toArray++us.toArray by simp]at K;refine⟨_,_,_,hr,hw.le_new _,VR.unkSlice σ hp.nx ⟨w.heap.size,0,(y++us).length+(Builtin.zeroCells z.cells (grownCap w (f+n) c' ex-(f+n))).size,ie.size⟩ rfl hge ?_,K⟩;show grownCap w (f+n) c' ex*ie.size<=(y++us).length+_;rw[size_zeroCells,aq,ez,<-Nat.add_mul];exact Nat.mul_le_mul_right _ (by omega)
  have Q:∀ {v:Aw} {hp':Hp},c'<f+n->(bif Nat.ble (o+f*ie.size) k then
    match d6 k0 o (f*ie.size)with
    |none=>none|some q=>some (Value.slice (some ⟨hp.nx,0,none⟩) (f+n) (c8 (f+n) 0),hp.new (q++news) e ie.size)
   else none)=some (v,hp')->MOK hp B w0 σ v hp' ((Builtin.append_ #[t,u] ty #[.slice (some ⟨p.blk,p.dl+o,none⟩) f c',.slice b n c]).run P w):=by
   intro v hp' hlt h;cases A:Nat.ble (o+f*ie.size) k with
   |false=>rw[A]at h;cases h
   |true=>
    rw[A,cond_true]at h;have A:=Nat.le_of_ble_eq_true A;split at h
    ·cases h
    rename_i q I;simp only[Option.some.injEq,Prod.mk.injEq]at h;obtain⟨rfl,rfl⟩:=h;have Y:=(g9 I).1;have:=ab q I A hlt hp hw (fill .e 0 (q++news)) (fun j hj=>v8 _ j hj) e ie.size rfl rfl rfl;rw[show(f+n)*ie.size=(q++news).length by rw[List.length_append,Y,N,Nat.add_mul]]at this;exact this
  cases M:Nat.ble unk g with
  |true=>
   rw[M,cond_true]at h;have M:=Nat.le_of_ble_eq_true M;obtain⟨az,ay,ac⟩:L6 g<=c'/\(D1 g=0\/c'<D1 g)/\p.dl+o+c'*p.esz<=p.siz:=by
    rcases R with⟨_,h⟩| ⟨_,h2,h3,h4⟩
    ·omega
    ·exact⟨h2,h3,h4⟩
   cases F:Nat.ble 1 (D1 g)&&Nat.ble (D1 g) (f+n)with
   |true=>rw[F,cond_true]at h;simp only[Bool.and_eq_true]at F;have g1:=Nat.le_of_ble_eq_true F.1;have g2:=Nat.le_of_ble_eq_true F.2;exact Q (by omega) h|false=>
   rw[F,cond_false]at h;cases h1:Nat.beq z' ie.size&&Nat.beq e' e&&Nat.ble (o+f*ie.size) k with
   |false=>rw[h1]at h;cases h
   |true=>
   rw[h1,cond_true]at h;simp only[Bool.and_eq_true]at h1;have av:=Nat.eq_of_beq_eq_true h1.1.1;have he:=Nat.eq_of_beq_eq_true h1.1.2;have A:=Nat.le_of_ble_eq_true h1.2;cases aa:Nat.ble (f+n) (L6 g)with
   |true=>
    rw[aa,cond_true,E7]at h;have aa:=Nat.le_of_ble_eq_true aa;have l:f+n<=c':=by omega
    simp only[Option.some.injEq,Prod.mk.injEq]at h;obtain⟨rfl,rfl⟩:=h;have bb:p.dl+(o+f*ie.size+n*ie.size)<=p.siz:=by
     have:(f+n)*ie.size<=c'*p.esz:=by rw[k2,av];exact Nat.mul_le_mul_right _ l
     rw[Nat.add_mul]at this;omega
    obtain⟨w',V,hh,_⟩:=hw.store (o:=o+f*ie.size) hg E hv U A (by rw[N];omega) P;have J:(⟨p.blk,p.dl+o,none⟩:Addr).add (f*ie.size)=⟨p.blk,p.dl+(o+f*ie.size),none⟩:=by rw[Addr.add_lit,Nat.add_assoc]
    have L:=M9 (P:=P) t u ty e e2 ie ht O H ⟨p.blk,p.dl+o,none⟩ f c' n c b us hf l (w':=w') (by rw[J];exact V);refine⟨σ,_,w',L,Mq _ σ,.slice i o p _ _ _ E (.inr ⟨M,az,ay,ac⟩) l,?_⟩;rw[N,show max k (o+f*ie.size+n*ie.size)=Nat.max k (o+(f+n)*ie.size) by rw[Nat.add_mul,Nat.add_assoc]]at hh;exact hh
   |false=>
   rw [aa,cond_false] at h;split at h
   ·cases h
   rename_i q I;rw[Mt]at h;generalize bg:(bif Nat.beq o 0 then fill k0 (f*ie.size) news else fill (fill .e 0 q) (f*ie.size) news)=ct at h;simp only[Option.some.injEq,Prod.mk.injEq]at h;obtain⟨rfl,rfl⟩:=h;obtain⟨Y,ao⟩:=g9 I;have ai:∀j,j<(q++news).length->ct.get j=(q++news)[j]? :=by
    intro j hj;rw[<-bg];have bn:j<f*ie.size+news.length:=by simpa [Y]using hj
    by_cases bc:j<f*ie.size
    ·rw[List.getElem?_append_left (by omega),ao j bc];cases ho:Nat.beq o 0 with
     |true=>have:=Nat.eq_of_beq_eq_true ho;subst this;rw[cond_true,f6,if_neg (by omega)];simp|false=>rw[cond_false,f6,if_neg (by omega),v8 q j (by omega),ao j bc]
    ·rw[List.getElem?_append_right (by omega),Y];cases ho:Nat.beq o 0 with
     |true=>rw[cond_true,f6,if_pos (by omega)]|false=>rw[cond_false,f6,if_pos (by omega)]
   by_cases l:f+n<=c'
   ·
    have bb:p.dl+o+(f*ie.size+n*ie.size)<=p.siz:=by
     have:(f+n)*ie.size<=c'*p.esz:=by rw[k2,av];exact Nat.mul_le_mul_right _ l
     rw[Nat.add_mul]at this;omega
    have hm:=hw.move hg E (o:=o) (k:=f*ie.size) A (bif Nat.beq o 0 then k0 else fill .e 0 q) (fun j hj=>by
     cases ho:Nat.beq o 0 with
     |true=>have:=Nat.eq_of_beq_eq_true ho;subst this;simp|false=>rw[cond_false,v8 q j (by omega),ao j hj])
    have X:=hw.le_new ⟨p.blk,p.dl+o,p.siz,p.esz⟩;obtain⟨w',V,hh,_⟩:=hm.store (i:=hp.nx) (o:=f*ie.size) (by rw[Mw,if_pos rfl]) (Mp _ _ _) (hv.mono X.le) U (Nat.le_refl _) (by show p.dl+o+_+_<=p.siz;rw[N];omega) P;have J:(⟨p.blk,p.dl+o,none⟩:Addr).add (f*ie.size)=⟨p.blk,p.dl+o+f*ie.size,none⟩:=Addr.add_lit _ _ _;have L:=M9 (P:=P) t u ty e e2 ie ht O H ⟨p.blk,p.dl+o,none⟩ f c' n c b us hf l (w':=w') (by rw[J];exact V);refine⟨_,_,w',L,X,?_,?_⟩
    ·have:=VR.slice (σ:=σ.ext hp.nx ⟨p.blk,p.dl+o,p.siz,p.esz⟩) hp.nx 0 ⟨p.blk,p.dl+o,p.siz,p.esz⟩ (f+n) (c8 (f+n) 0) c' (Mp _ _ _) (.inr ⟨j1 _ _,by rw[G2 E6];exact l,.inl (G1 E6),by simpa using ac⟩) l;simpa using this
    ·have bj:fill (bif Nat.beq o 0 then k0 else fill .e 0 q) (f*ie.size) news=ct:=by rw[<-bg];cases Nat.beq o 0<;>rfl
     rw[bj,N,show max (f*ie.size) (f*ie.size+n*ie.size)=(f+n)*ie.size by rw[Nat.add_mul];omega]at hh;refine hh.of_same rfl (fun j=>?_);simp only[Mw];split<;>rfl
   ·subst av;subst he;exact ab q I A (by omega) {hp with m:=hp.m.set i none} (hw.kill i) _ ai _ _ rfl rfl rfl
  |false=>
   rw[M,cond_false]at h;have ba:¬unk<=g:=fun h=>by rw[Nat.ble_eq_true_of_le h]at M;cases M
   obtain⟨rfl,be⟩:g=c'/\g<unk:=by
    rcases R with h| ⟨h,_⟩
    ·exact h
    ·exact absurd h ba
   cases l:Nat.ble (f+n) g with
   |true=>
    rw[l,cond_true]at h;have l:=Nat.le_of_ble_eq_true l;cases S:Nat.ble (o+(f+n)*ie.size) k with
    |false=>rw[S]at h;cases h
    |true=>
     rw[S,cond_true,E7]at h;have S:=Nat.le_of_ble_eq_true S;simp only[Option.some.injEq,Prod.mk.injEq]at h;obtain⟨rfl,rfl⟩:=h;rw[Nat.add_mul]at S;obtain⟨w',V,hh,_⟩:=hw.store (o:=o+f*ie.size) hg E hv U (by omega) (by rw[N];omega) P;have J:(⟨p.blk,p.dl+o,none⟩:Addr).add (f*ie.size)=⟨p.blk,p.dl+(o+f*ie.size),none⟩:=by rw[Addr.add_lit,Nat.add_assoc]
     have L:=M9 (P:=P) t u ty e e2 ie ht O H ⟨p.blk,p.dl+o,none⟩ f g n c b us hf l (w':=w') (by rw[J];exact V);refine⟨σ,_,w',L,Mq _ σ,.slice i o p _ _ _ E (.inl ⟨rfl,be⟩) l,?_⟩
     ·rw[N,show max k (o+f*ie.size+n*ie.size)=k by omega]at hh;exact hh
   |false=>
    rw[l,cond_false]at h;have bh:¬f+n<=g:=fun h=>by rw[Nat.ble_eq_true_of_le h]at l;cases l
    exact Q (by omega) h
 ·cases h
end
end Go.Xe
end PartXm8
noncomputable section PartXm9
namespace Go.Xe
open Go.RowKit
section
variable {P :Ax}{B:BS}{w0:Be}{σ:Sg}{hp:Hp}{w:Be}
def qp (P:Ax)(hp:Hp)(t:Ay)(d x:Aw):Bc (Aw×Hp):=
 match P.underlying t with
 |some (.slice e)=>match P.info? e with
  |none=>none|some ie=>match d with
   | .slice none dl _ => bif Nat.beq dl 0 then
     match x with
     | .slice (some ⟨_,_,none⟩) _ _| .slice none _ _=>some (.int .i64 0,hp)
     |_=>none
    else none
   | .slice (some ⟨0, 0, some 0⟩) 0 _ => match x with
     | .slice (some ⟨_,_,none⟩) _ _=>some (.int .i64 0,hp)|_=>none
   | .slice (some ⟨i,o,none⟩) dl dc=>match hp.m.get i with
    |some (.cells c k e' z')=>match x with
     | .slice none n _=>bif Nat.beq n 0 then some (.int .i64 0,hp)else none| .slice (some ⟨j,q,none⟩) n cx=>match j2 hp ie.size (.slice (some ⟨j,q,none⟩) (Nat.min n dl) cx)with
      | some (m, vs) => bif (Nat.ble (o + m * ie.size) k || (Nat.ble unk dc && Nat.beq z' ie.size && Nat.ble o k)) && Nat.ble m dl && vs.all Value.oneCell' then
        some (.int .i64 m,jS hp i c (Nat.max k (o+m*ie.size)) e' z' o vs)
       else none
      |none=>none
     | .slice (some ⟨0,0,some 0⟩) 0 _=>some (.int .i64 0,hp)|_=>none
    |_=>none
   |_=>none
 |_=>none
variable {v x x':Aw}
theorem vM {t u:Ay}{d G:Aw}{hp':Hp}(h:qp P hp t d x=some (v,hp'))(hd:VR σ d G)(hx:VR σ x x')(hw:HR B w0 σ hp w)(ty:Ay):MOK hp B w0 σ v hp' ((Builtin.copy_ #[t,u] ty #[G,x']).run P w):=by
 unfold qp at h;split at h;case h_2=>cases h
 rename_i e ht;split at h
 ·cases h
 rename_i ie a;split at h
 ·rename_i dl dc;cases hb:Nat.beq dl 0 with
  |false=>grind|true=>
  rw[hb,cond_true]at h;have hb:=Nat.eq_of_beq_eq_true hb;subst hb;cases hd;split at h
  ·rename_i j q n cx;cases h;cases hx with
   |slice _ _ p _ _ c' hp' hc hl=>
   refine⟨σ,_,w,?_,Mq _ σ,.int _ _,hw⟩;simp[Builtin.copy_,run_underlying ht,Builtin.lenOf,sizeOf,typeInfo,a,Builtin.firstCells,loadCells,loadCellsFrom,goInt]
  ·rename_i n cx;cases h;cases hx;refine⟨σ,_,w,?_,Mq _ σ,.int _ _,hw⟩;simp[Builtin.copy_,run_underlying ht,Builtin.lenOf,sizeOf,typeInfo,a,Builtin.firstCells,goInt]
  ·cases h
 ·rename_i dc;split at h
  ·simp only[Option.some.injEq,Prod.mk.injEq]at h;obtain⟨rfl,rfl⟩:=h;cases hd;cases hx with
   |slice _ _ p _ _ c' hp' hc hl=>
   refine⟨σ,_,w,?_,Mq _ σ,.int _ _,hw⟩;simp[Builtin.copy_,run_underlying ht,Builtin.lenOf,sizeOf,typeInfo,a,Builtin.firstCells,loadCells,loadCellsFrom,storeCells,goInt]
  ·cases h
 ·rename_i i o dl dc;split at h;case h_2=>cases h
  rename_i c k e' R K;cases hd with
  |slice _ _ p _ _ c' s hc hl=>
  obtain⟨k1,k2⟩:=hw.place K s;split at h
  ·rename_i n cx;cases hb:Nat.beq n 0 with
   |false=>grind|true=>rw[hb,cond_true]at h;have hb:=Nat.eq_of_beq_eq_true hb;subst hb;cases h;cases hx;refine⟨σ,_,w,?_,Mq _ σ,.int _ _,hw⟩;simp[Builtin.copy_,run_underlying ht,Builtin.lenOf,sizeOf,typeInfo,a,Builtin.firstCells,goInt,storeCells]
  ·rename_i j q n cx;cases hx with
   |slice _ _ p2 _ _ y hp2 C N=>
   split at h
   ·rename_i m vs hf;cases hb:(Nat.ble (o+m*ie.size) k|| (Nat.ble unk dc&&Nat.beq R ie.size&&Nat.ble o k))&&Nat.ble m dl&&vs.all Value.oneCell' with
    |false=>grind|true=>
     rw[hb,cond_true,E7]at h;simp only[Bool.and_eq_true,Bool.or_eq_true]at hb;have O:=Nat.le_of_ble_eq_true hb.1.2;have l:o<=k/\p.dl+(o+m*ie.size)<=p.siz:=by
      rcases hb.1.1 with M| ⟨⟨H,z⟩,I⟩
      ·simp_all;omega
      ·have H:=Nat.le_of_ble_eq_true H;have z:=Nat.eq_of_beq_eq_true z;have I:=Nat.le_of_ble_eq_true I;have J:p.dl+o+c'*p.esz<=p.siz:=by grind
       have:m*ie.size<=c'*p.esz:=by rw[k2,z];exact Nat.mul_le_mul_right _ (by omega)
       omega
     cases h;have Q:Nat.min n dl<=n:=Nat.min_le_left _ _;obtain⟨us,E,f,b,S,g,L,A⟩:=iQ hf (.slice j q p2 (Nat.min n dl) cx y hp2 C (by omega)) hw;simp only[Value.slice.injEq]at g;obtain⟨rfl,rfl,rfl⟩:=g;have r:=E.all_oneCell hb.2;have F:=E.1;obtain⟨w',D,hh,_⟩:=hw.store (o:=o) K s E r l.1 (by rw[F,f];omega) P;refine⟨σ,_,w',?_,Mq _ σ,.int _ _,?_⟩
     ·have hl:=run_loadCells_list (P:=P) w _ us (A _ rfl);rw[f]at hl;simp only[Builtin.copy_,List.getElem?_toArray,List.getElem?_cons_zero,List.getElem?_cons_succ,Sem.run_bind,run_underlying ht,Result.andThen_ok,Builtin.lenOf,Sem.run_pure,sizeOf,typeInfo,run_program,a,Builtin.firstCells,hl,D,goInt]
     ·grind
   ·cases h
  ·simp only[Option.some.injEq,Prod.mk.injEq]at h;obtain⟨rfl,rfl⟩:=h;cases hx with
   |vague q c'=>refine⟨σ,_,w,?_,Mq _ σ,.int _ _,hw⟩;simp[Builtin.copy_,run_underlying ht,Builtin.lenOf,sizeOf,typeInfo,a,Builtin.firstCells,loadCells,loadCellsFrom,storeCells,goInt]
  ·cases h
 ·cases h
def M4 (v:Aw)(y:Nat):Ai:=
 match v with
 | .int _ n=>bif decide (0<=n)&&decide (n<=y)then some n.toNat else none|_=>none
theorem L3 {v':Aw}{y n:Nat}(h:M4 v y=some n)(f:VR σ v v'){c:Nat}(hy:y<=c)(a:BoundsCode):n<=y/\ ∀w,(Instr.sliceBound v' c a).run P w= .ok n w:=by
 unfold M4 at h;split at h
 ·rename_i k m;cases f;cases hb:decide (0<=m)&&decide (m<=y)with
  |false=>grind|true=>rw[hb,cond_true]at h;simp only[Bool.and_eq_true,decide_eq_true_eq]at hb;simp only[Option.some.injEq]at h;subst h;exact⟨by omega,fun w=>run_sliceBound w k m c a hb.1 (by omega)⟩
 ·cases h
def p9 (len cb:Nat)(lo hi mx:Ag):Bc (Nat×Nat×Ai):=
 match(match mx with|some v=>(M4 v cb).map some|none=>some none)with
 |none=>none|some m=>match(match hi with|some v=>M4 v (m.getD cb)|none=>(match mx with|some _=>none|none=>some len))with
  |none=>none|some h=>match(match lo with|some v=>M4 v h|none=>some 0)with
   |none=>none|some l=>some (l,h,m)
def OVR (σ:Sg):Ag->Ag->Prop
 |none,none=>True|some v,some u=>VR σ v u|_,_=>False
variable {hi hi' lo lo' mx mx':Ag}
theorem F8 {len cb cap:Nat}{l h:Nat}{m:Ai}(he:p9 len cb lo hi mx=some (l,h,m))(h1:OVR σ lo lo')(h2:OVR σ hi hi')(h3:OVR σ mx mx')(hc:cb<=cap)(f:len<=cb)(isS:Bool):l<=h/\h<=m.getD cb/\m.getD cb<=cb/\ ∀w,(Instr.sliceBounds isS len cap lo' hi' mx').run P w= .ok (l,h,m.getD cap) w:=by
 unfold p9 at he;cases mx with
 |none=>
  cases mx' with
  |some _=>exact h3.elim|none=>
  simp only[Option.getD_none]at he;cases hi with
  |none=>
   cases hi' with
   |some _=>exact h2.elim|none=>
   simp only at he;cases lo with
   |none=>
    cases lo' with
    |some _=>exact h1.elim|none=>
    cases he;exact⟨by omega,f,Nat.le_refl _,fun w=>by simp[Instr.sliceBounds]⟩
   |some lv=>
    cases lo' with
    |none=>exact h1.elim|some g=>
    simp only at he;cases hb:M4 lv len with
    |none=>grind|some p=>simp only[hb,Option.some.injEq,Prod.mk.injEq]at he;obtain⟨rfl,rfl,rfl⟩:=he;obtain⟨a1,a2⟩:=L3 (P:=P) hb h1 (Nat.le_refl _) .sliceB;exact⟨a1,f,Nat.le_refl _,fun w=>by simp[Instr.sliceBounds,a2]⟩
  |some i=>
   cases hi' with
   |none=>exact h2.elim|some j=>
   simp only at he;cases a:M4 i cb with
   |none=>grind|some h0=>
    simp only[a]at he;obtain⟨b1,b2⟩:=L3 (P:=P) a h2 hc (if isS then .sliceAcap else .sliceAlen);cases lo with
    |none=>
     cases lo' with
     |some _=>exact h1.elim|none=>
     cases he;exact⟨by omega,b1,Nat.le_refl _,fun w=>by simp[Instr.sliceBounds,b2]⟩
    |some lv=>
     cases lo' with
     |none=>exact h1.elim|some g=>
     simp only at he;cases hb:M4 lv h0 with
     |none=>grind|some p=>simp only[hb,Option.some.injEq,Prod.mk.injEq]at he;obtain⟨rfl,rfl,rfl⟩:=he;obtain⟨a1,a2⟩:=L3 (P:=P) hb h1 (Nat.le_refl _) .sliceB;exact⟨a1,b1,Nat.le_refl _,fun w=>by simp[Instr.sliceBounds,b2,a2]⟩
 |some mv=>
  cases mx' with
  |none=>exact h3.elim|some q=>
  simp only at he;cases c:M4 mv cb with
  |none=>grind|some m0=>
   simp only[c,Option.map_some,Option.getD_some]at he;obtain⟨n,o⟩:=L3 (P:=P) c h3 hc (if isS then .slice3Acap else .slice3Alen);cases hi with
   |none=>simp at he|some i=>
    cases hi' with
    |none=>exact h2.elim|some j=>
    simp only at he;cases a:M4 i m0 with
    |none=>grind|some h0=>
     simp only[a]at he;obtain⟨b1,b2⟩:=L3 (P:=P) a h2 (Nat.le_refl _) .slice3B;cases lo with
     |none=>
      cases lo' with
      |some _=>exact h1.elim|none=>
      cases he;exact⟨by omega,b1,n,fun w=>by simp[Instr.sliceBounds,b2,o]⟩
     |some lv=>
      cases lo' with
      |none=>exact h1.elim|some g=>
      simp only at he;cases hb:M4 lv h0 with
      |none=>grind|some p=>simp only[hb,Option.some.injEq,Prod.mk.injEq]at he;obtain⟨rfl,rfl,rfl⟩:=he;obtain⟨a1,a2⟩:=L3 (P:=P) hb h1 (Nat.le_refl _) .slice3C;exact⟨a1,b1,n,fun w=>by simp[Instr.sliceBounds,b2,o,a2]⟩
def i9 (P:Ax)(hp:Hp)(t:Ay)(x:Aw)(lo hi mx:Ag):Bc (Aw×Hp):=
 match P.underlying t with
 |some .string=>match x with
  | .string s=>match mx with
   |some _=>none|none=>match p9 s.data.toList.length s.data.toList.length lo hi none with
    |some (l,h,_)=>some (.string ⟨((s.data.toList.take h).drop l).toArray⟩,hp)|none=>none
  |_=>none
 |some (.slice e)=>match P.info? e with
  |none=>none|some ie=>match x with
   | .slice none len cap => bif Nat.beq len 0 && Nat.beq cap 0 then
     match p9 0 0 lo hi mx with
     |some _=>some (.slice none 0 0,hp)|none=>none
    else none
   | .slice (some ⟨0,0,some 0⟩) 0 _=>match p9 0 0 lo hi mx with
    |some (_,_,none)=>some (.slice (some ⟨0,0,some 0⟩) 0 unk,hp)|_=>none
   | .slice (some ⟨i,o,none⟩) len cap=>
    bif Nat.ble unk cap then
     bif Nat.ble (Nat.max (L6 cap) len) 67108864 then
     match p9 len (Nat.max (L6 cap) len) lo hi mx with
     |none=>none
     | some (l, h, some m) => bif Nat.beq m l then some (.slice (some ⟨i, o, none⟩) (h - l) (m - l), hp)
       else some (.slice (some ⟨i,o+l*ie.size,none⟩) (h-l) (m-l),hp)
     | some (l, h, none) => bif Nat.beq l 0 then some (.slice (some ⟨i, o, none⟩) h (c8 (Nat.max (L6 cap) len) (D1 cap)), hp) else
       bif Nat.beq l (Nat.max (L6 cap) len)then some (.slice (some ⟨0,0,some 0⟩) 0 unk,hp)
       else match hp.m.get i with
        |some (.cells _ _ _ z')=>bif Nat.beq z' ie.size then some (.slice (some ⟨i,o+l*ie.size,none⟩) (h-l) (c8 (Nat.max (L6 cap) len-l) (D1 cap-l)),hp)else none|_=>none
     else none
    else bif Nat.ble len cap then
     match p9 len cap lo hi mx with
     |none=>none
     | some (l, h, m) => bif Nat.beq (m.getD cap) l then some (.slice (some ⟨i, o, none⟩) (h - l) (m.getD cap - l), hp)
       else some (.slice (some ⟨i,o+l*ie.size,none⟩) (h-l) (m.getD cap-l),hp)
    else none
   |_=>none
 |some (.array n e)=>match P.info? e with
  |none=>none|some ie=>match x with
   | .pointer (some ⟨i, o, none⟩) => bif Nat.ble n 16777216 then
     match p9 n n lo hi mx with
     |none=>none
     | some (l, h, m) => bif Nat.beq (m.getD n) l then some (.slice (some ⟨i, o, none⟩) (h - l) (m.getD n - l), hp)
       else some (.slice (some ⟨i,o+l*ie.size,none⟩) (h-l) (m.getD n-l),hp)
    else none
   |_=>none
 |_=>none
theorem gY (s:ByteArray)(l h:Nat):s.extract l h=⟨((s.data.toList.take h).drop l).toArray⟩:=by apply ByteArray.ext;rw[ByteArray.data_extract];grind
theorem sJ {t:Ay}{hp':Hp}(h:i9 P hp t x lo hi mx=some (v,hp'))(hx:VR σ x x')(h1:OVR σ lo lo')(h2:OVR σ hi hi')(h3:OVR σ mx mx')(hw:HR B w0 σ hp w):MOK hp B w0 σ v hp' ((Instr.sliceAt t x' lo' hi' mx').run P w):=by
 unfold i9 at h;split at h
 ·rename_i G;split at h
  ·rename_i s;cases hx;split at h
   ·cases h
   ·cases mx' with
    |some _=>exact h3.elim|none=>
    split at h
    ·rename_i l hh m hb;cases h;obtain⟨_,_,_,a4⟩:=F8 (P:=P) (cap:=s.size) hb h1 h2 (show OVR σ none none from trivial) (by simp) (Nat.le_refl _) false;rw[show s.data.toList.length=s.size by simp]at a4;refine⟨σ,_,w,?_,Mq _ σ,.string _,hw⟩;simp only[Instr.sliceAt,Sem.run_bind,run_underlying G,Result.andThen_ok,Instr.slice,Option.isSome_none,Bool.false_eq_true,if_false,Sem.run_pure,a4,gY]
    ·cases h
  ·cases h
 ·rename_i e G;split at h
  ·cases h
  rename_i ie z;split at h
  ·rename_i len cap;cases hb:Nat.beq len 0&&Nat.beq cap 0 with
   |false=>grind|true=>
    rw[hb,cond_true]at h;simp only[Bool.and_eq_true]at hb;have Z:=Nat.eq_of_beq_eq_true hb.1;have e2:=Nat.eq_of_beq_eq_true hb.2;subst Z;subst e2;cases hx;split at h
    ·rename_i W c;obtain⟨l,hh,m⟩:=W;cases h;obtain⟨a1,a2,a3,a4⟩:=F8 (P:=P) (cap:=0) c h1 h2 h3 (Nat.le_refl _) (Nat.le_refl _) true;have g:l=0:=by omega
     have F:hh=0:=by omega
     have V:m.getD 0=0:=by omega
     subst g;subst F;rw[V]at a4;refine⟨σ,_,w,?_,Mq _ σ,.nils 0 0,hw⟩;simp only[Instr.sliceAt,Sem.run_bind,run_underlying G,Result.andThen_ok,Instr.slice,a4,sizeOf,typeInfo,run_program,z,Sem.run_pure,if_true,Nat.sub_self]
    ·cases h
  ·rename_i cap;split at h
   ·rename_i l hh c;cases h;cases hx with
    |vague q c'=>
     obtain⟨a1,a2,a3,a4⟩:=F8 (P:=P) (cap:=c') c h1 h2 h3 (Nat.zero_le _) (Nat.le_refl _) true;simp only[Option.getD_none]at a2 a3 a4;have g:l=0:=by omega
     have F:hh=0:=by omega
     subst g;subst F;refine⟨σ,.slice (some q) 0 c',w,?_,Mq _ σ,.vague q c',hw⟩;have hq:(q.add 0)=q:=by simp[Addr.add]
     simp only[Instr.sliceAt,Sem.run_bind,run_underlying G,Result.andThen_ok,Instr.slice,a4,sizeOf,typeInfo,run_program,z,Sem.run_pure,Nat.sub_self,Nat.sub_zero,Nat.zero_mul,Option.map_some,hq,ite_self]
   ·cases h
  ·rename_i i o len cap;cases hx with
   | slice _ _ p _ _ c' f ab M =>
   have C:∀(l hh m:Nat),(∀w,(Instr.sliceBounds true len c' lo' hi' mx').run P w= .ok (l,hh,m) w)->
     (Instr.sliceAt t (.slice (some ⟨p.blk,p.dl+o,none⟩) len c') lo' hi' mx').run P w= .ok (.slice (some (if m=l then⟨p.blk,p.dl+o,none⟩else⟨p.blk,p.dl+(o+l*ie.size),none⟩)) (hh-l) (m-l)) w:=by
    intro l hh m a4;simp only[Instr.sliceAt,Sem.run_bind,run_underlying G,Result.andThen_ok,Instr.slice,a4,sizeOf,typeInfo,run_program,z,Sem.run_pure];by_cases a:m=l
    ·simp[a]
    ·simp[a,Addr.add_lit,Nat.add_assoc]
   cases u:Nat.ble unk cap with
   |true=>
    rw[u,cond_true]at h;have u:=Nat.le_of_ble_eq_true u;obtain⟨J,I,D⟩:L6 cap<=c'/\(D1 cap=0\/c'<D1 cap)/\p.dl+o+c'*p.esz<=p.siz:=by grind
    have K:D1 cap<unk:=Nat.mod_lt _ E6;have O:Nat.max (L6 cap) len<=c':=Nat.max_le.2 ⟨J,M⟩;have E:len<=Nat.max (L6 cap) len:=Nat.le_max_right _ _;generalize aa:Nat.max (L6 cap) len=L at h O E;cases A:Nat.ble L 67108864 with
    |false=>grind|true=>
    rw[A,cond_true]at h;have A:=Nat.le_of_ble_eq_true A;split at h
    ·cases h
    ·rename_i l hh m c;obtain⟨a1,a2,a3,a4⟩:=F8 (P:=P) (cap:=c') c h1 h2 h3 O E true;simp only[Option.getD_some]at a2 a3 a4;have hr:=C l hh m a4;have r:m-l<unk:=by unfold unk;omega
     cases a:Nat.beq m l with
     |true=>rw[a,cond_true]at h;have a:=Nat.eq_of_beq_eq_true a;subst a;cases h;rw[if_pos rfl]at hr;exact⟨σ,_,w,hr,Mq _ σ,.slice i o p _ _ _ f (.inl ⟨rfl,r⟩) (by omega),hw⟩
     |false=>
      rw[a,cond_false]at h;have j:m≠l:=fun e=>by rw[e,l6 rfl]at a;cases a
      cases h;rw[if_neg j]at hr;exact⟨σ,_,w,hr,Mq _ σ,.slice i _ p _ _ _ f (.inl ⟨rfl,r⟩) (by omega),hw⟩
    ·rename_i l hh c;obtain⟨a1,a2,a3,a4⟩:=F8 (P:=P) (cap:=c') c h1 h2 h3 O E true;simp only[Option.getD_none]at a2 a3 a4;have hr:=C l hh c' a4;cases g:Nat.beq l 0 with
     |true=>rw[g,cond_true]at h;have g:=Nat.eq_of_beq_eq_true g;subst g;cases h;simp only[Nat.zero_mul,Nat.add_zero,ite_self,Nat.sub_zero]at hr;exact⟨σ,_,w,hr,Mq _ σ,.slice i o p _ _ _ f (.inr ⟨j1 _ _,by rw[G2 K];exact O,by rw[G1 K];exact I,D⟩) (by omega),hw⟩
     |false=>
      rw[g,cond_false]at h;cases y:Nat.beq l L with
      |true=>
       rw[y,cond_true]at h;have y:=Nat.eq_of_beq_eq_true y;have T:hh=l:=by omega
       subst T;cases h;rw[Nat.sub_self]at hr;exact⟨σ,_,w,hr,Mq _ σ,.vague _ _,hw⟩
      |false=>
       rw[y,cond_false]at h;have Y:l≠L:=fun e=>by rw[e,l6 rfl]at y;cases y
       split at h;case h_2=>cases h
       rename_i tc k e' z' hg;obtain⟨k1,k2⟩:=hw.place hg f;cases N:Nat.beq z' ie.size with
       |false=>grind|true=>
        rw[N,cond_true]at h;have ac:=Nat.eq_of_beq_eq_true N;have S:p.esz=ie.size:=by grind
        cases h;have R:c'≠l:=by omega
        rw[if_neg R]at hr;refine⟨σ,_,w,hr,Mq _ σ,.slice i _ p _ _ _ f (.inr ⟨j1 _ _,by rw[G2 (by omega)];omega,by rw[G1 (by omega)];omega,?_⟩) (by omega),hw⟩;rw[S]at D⊢;have:l*ie.size+(c'-l)*ie.size=c'*ie.size:=by rw[<-Nat.add_mul];congr 1;omega
        omega
   |false=>
    rw[u,cond_false]at h;have X:¬unk<=cap:=fun h=>by rw[Nat.ble_eq_true_of_le h]at u;cases u
    have H:cap=c'/\cap<unk:=by grind
    obtain⟨rfl,Q⟩:=H;cases U:Nat.ble len cap with
    |false=>grind|true=>
    rw[U,cond_true]at h;split at h
    ·cases h
    ·rename_i l hh m c;obtain⟨a1,a2,a3,a4⟩:=F8 (P:=P) (cap:=cap) c h1 h2 h3 (Nat.le_refl _) M true;have hr:=C l hh (m.getD cap) a4;have r:m.getD cap-l<unk:=by omega
     cases a:Nat.beq (m.getD cap) l with
     |true=>rw[a,cond_true]at h;have a:=Nat.eq_of_beq_eq_true a;cases h;rw[if_pos a]at hr;exact⟨σ,_,w,hr,Mq _ σ,.slice i o p _ _ _ f (.inl ⟨rfl,r⟩) (by omega),hw⟩
     |false=>
      rw[a,cond_false]at h;have j:m.getD cap≠l:=fun e=>by rw[e,l6 rfl]at a;cases a
      cases h;rw[if_neg j]at hr;exact⟨σ,_,w,hr,Mq _ σ,.slice i _ p _ _ _ f (.inl ⟨rfl,r⟩) (by omega),hw⟩
  ·cases h
 ·rename_i n e G;split at h
  ·cases h
  rename_i ie z;split at h
  ·rename_i i o;cases hx with
   |ptr _ _ p f=>
   cases hn:Nat.ble n 16777216 with
   |false=>grind|true=>
   rw[hn,cond_true]at h;have hn:=Nat.le_of_ble_eq_true hn;split at h
   ·cases h
   ·rename_i l hh m c;obtain⟨a1,a2,a3,a4⟩:=F8 (P:=P) (cap:=n) c h1 h2 h3 (Nat.le_refl _) (Nat.le_refl _) false;have hr:(Instr.sliceAt t (.pointer (some ⟨p.blk,p.dl+o,none⟩)) lo' hi' mx').run P w= .ok (.slice (some (if m.getD n=l then⟨p.blk,p.dl+o,none⟩else⟨p.blk,p.dl+(o+l*ie.size),none⟩)) (hh-l) (m.getD n-l)) w:=by
     simp only[Instr.sliceAt,Sem.run_bind,run_underlying G,Result.andThen_ok,Instr.sureAddr,a4,sizeOf,typeInfo,run_program,z,Sem.run_pure];by_cases a:m.getD n=l
     ·simp[a]
     ·simp[a,Addr.add_lit,Nat.add_assoc]
    have r:m.getD n-l<unk:=by unfold unk;omega
    cases a:Nat.beq (m.getD n) l with
    |true=>rw[a,cond_true]at h;have a:=Nat.eq_of_beq_eq_true a;cases h;rw[if_pos a]at hr;exact⟨σ,_,w,hr,Mq _ σ,.slice i o p _ _ _ f (.inl ⟨rfl,r⟩) (by omega),hw⟩
    |false=>
     rw[a,cond_false]at h;have j:m.getD n≠l:=fun e=>by rw[e,l6 rfl]at a;cases a
     cases h;rw[if_neg j]at hr;exact⟨σ,_,w,hr,Mq _ σ,.slice i _ p _ _ _ f (.inl ⟨rfl,r⟩) (by omega),hw⟩
  ·cases h
 ·cases h
end
end Go.Xe
end PartXm9
noncomputable section PartXmM
namespace Go.Xe
open Go.RowKit
section
variable {P :Ax}{B:BS}{w0:Be}{σ:Sg}{hp:Hp}{w:Be}
def ot (hp:Hp)(it:Aw)(isString:Bool):Bc (Aw×Hp):=
 match it,isString with
 | .pointer (some ⟨i,0,none⟩),true=>match hp.m.get i with
  | some (.sit s pos) => bif Nat.blt pos s.data.toList.length then
    some (.tuple #[.bool true,.int .i64 pos,.int .i32 (Utf8.decode s pos).1],{hp with m:=hp.m.set i (some (.sit s (pos+(Utf8.decode s pos).2)))})
   else some (.tuple #[.bool false],hp)
  |_=>none
 |_,_=>none
variable {b:Aw}
def VR.tup1 {σ:Sg}{a:Aw}(h:VR σ a b):VR σ (.tuple #[a]) (.tuple #[b]):=(ME h (MF σ)).to_tuple
variable {d:Aw}
def VR.tup2 {σ:Sg}{a c:Aw}(h:VR σ a b)(k:VR σ c d):VR σ (.tuple #[a,c]) (.tuple #[b,d]):=(ME h (ME k (MF σ))).to_tuple
def VR.tup3 {σ:Sg}{a c e f:Aw}(h:VR σ a b)(k:VR σ c d)(l:VR σ e f):VR σ (.tuple #[a,c,e]) (.tuple #[b,d,f]):=(ME h (ME k (ME l (MF σ)))).to_tuple
def N6 {r:Nat}{o:Obj}(h:w.heap[r]? =some o)(hc:∀c e f,o≠ .cells c e f):(getObj r).run P w= .ok o w:=by simp only[getObj,Sem.run,h]
def Y3 {r:Nat}{o o':Obj}(h:w.heap[r]? =some o)(hc:∀c e f,o≠ .cells c e f):(setObj r o').run P w= .ok () {w with heap:=w.heap.setIfInBounds r o'}:=by simp only[setObj,Sem.run,h]
theorem HR.setO (h:HR B w0 σ hp w){i:Nat}{b b':Blk}(g:hp.m.get i=some b){p:Pl}(a:σ i=some p){o:Obj}(hb:BR σ p b' o)(f:aQ b=false:=by rfl)(c:aQ b'=false:=by rfl):HR B w0 σ {hp with m:=hp.m.set i (some b')} {w with heap:=w.heap.setIfInBounds p.blk o}:=by
 obtain⟨p',o',j,_,l,_⟩:=h.live i b g;have:p'=p:=Option.some.inj (j.symm.trans a);subst this;have hlt:=(Array.getElem?_eq_some_iff.1 l).1;refine h.turn g a ?_ (fun k hk=>?_) (by simp) rfl rfl rfl hb f c
 ·simp[hlt]
 ·grind
variable {v:Aw}{hp':Hp}
theorem vR {t g:Aw}{isS:Bool}(h:ot hp t isS=some (v,hp'))(hi:VR σ t g)(hw:HR B w0 σ hp w)(ty:Ay):MOK hp B w0 σ v hp' ((Instr.next g isS ty).run P w):=by
 unfold ot at h;split at h
 ·rename_i i;cases hi with
  |ptr _ _ p l=>
  split at h
  ·rename_i s pos r;obtain⟨p',o,n,y,q,u,j⟩:=hw.live i _ r;have:p'=p:=Option.some.inj (n.symm.trans l);subst this;subst u;have a:=N6 (P:=P) q (fun c e f h=>by cases h);cases hlt:Nat.blt pos s.data.toList.length with
   |true=>
    rw[hlt,cond_true]at h;cases h;have hpos:pos<s.size:=by simp_all
    have hset:=Y3 (P:=P) (o':= .stringIter s (pos+(Utf8.decode s pos).2)) q (fun c e f h=>by cases h);refine⟨σ,_,_,?_,Mq _ σ,VR.tup3 (.bool true) (.int .i64 pos) (.int .i32 _),hw.setO r n (b':= .sit s (pos+(Utf8.decode s pos).2)) ⟨rfl,j⟩⟩;simp[Instr.next,j,a,hpos,hset,goInt]
   |false=>
    rw[hlt,cond_false]at h;cases h;have hpos:¬pos<s.size:=by intro hc;rw[show Nat.blt pos s.data.toList.length=true from Nat.ble_eq_true_of_le (by simp;omega)]at hlt;cases hlt
    refine⟨σ,_,w,?_,Mq _ σ,VR.tup1 (.bool false),hw⟩;simp[Instr.next,j,a,hpos]
  ·cases h
 ·cases h
def vX (kind:TypeDesc)(a b:Aw):Bc Bool:=
 match kind,a,b with
 | .int _,.int k x,.int k' y=>bif decide (k=k')then some (decide (x=y))else none| .string,.string x,.string y=>some (x.data.toList==y.data.toList)| .bool,.bool x,.bool y=>some (x==y)|_,_,_=>none
variable {a' b':Aw}
theorem kX {kind:TypeDesc}{a:Aw}{r:Bool}(h:vX kind a b=some r)(ha:VR σ a a')(hb:VR σ b b'):Instr.sameNow kind a' b'=some r/\(r=true->a=b/\Instr.sameBits 10000 b' a'=true):=by
 unfold vX at h;split at h
 ·rename_i k0 k x k' y;cases ha;cases hb;cases hk:decide (k=k')with
  |false=>grind|true=>
   rw[hk]at h;simp only[decide_eq_true_eq]at hk;subst hk;simp only[cond_true,Option.some.injEq]at h;subst h;refine⟨?_,fun hr=>?_⟩
   ·simp only[Instr.sameNow,if_true];congr 1
   ·simp only[decide_eq_true_eq]at hr;subst hr;exact⟨rfl,by simp[Instr.sameBits]⟩
 ·rename_i x y;cases ha;cases hb;cases h;have e:(x==y)=(x.data.toList==y.data.toList):=by rw[beq_toListBytes,ByteArray.toList_eq,ByteArray.toList_eq]
  refine⟨by simp only[Instr.sameNow,e],fun hr=>?_⟩;have c:x=y:=by obtain⟨⟨x⟩⟩:=x;simp_all
  subst c;exact⟨rfl,by simp only[Instr.sameBits,e,hr]⟩
 ·rename_i x y;cases ha;cases hb;cases h;refine⟨rfl,fun hr=>?_⟩;have c:x=y:=by grind
  subst c;exact⟨rfl,by simp[Instr.sameBits]⟩
 ·cases h
def kR (kind:TypeDesc)(k:Aw):List (Aw×Aw)->Nat->Bc (Bc (Nat×Aw))
 | [],_=>some none|e::es,i=>match vX kind k e.1 with
  |some true=>some (some (i,e.2))|some false=>kR kind k es (i+1)|none=>none
theorem kT {kind:TypeDesc}{k k':Aw}(hk:VR σ k k'):∀ {es:List (Aw×Aw)} {ents:List MapEntry} {i:Nat} {r:Bc (Nat×Aw)},kR kind k es i=some r->es.length=ents.length->(∀(j:Nat) x e,es[j]? =some x->ents[j]? =some e->VR σ x.1 e.key/\VR σ x.2 e.val)->(r=none->Instr.findNow kind k' ents i=some none)/\(∀n v,r=some (n,v)->i<=n/\ ∃u x e,Instr.findNow kind k' ents i=some (some (n,u))/\VR σ v u/\es[n-i]? =some x/\ents[n-i]? =some e/\x=(k,v)/\Instr.sameBits 10000 e.key k'=true)
 | [],ents,i,r,h,hl,_=>by simp only[kR,Option.some.injEq]at h;subst h;have:ents=[]:=List.eq_nil_of_length_eq_zero hl.symm;subst this;exact⟨fun _=>rfl,(fun n v h=>by cases h)⟩|x::es,[],i,r,h,hl,_=>by simp at hl|x::es,e::ents,i,r,h,hl,hr=>by
  obtain⟨h1,h2⟩:=hr 0 x e rfl rfl;simp only[kR]at h;split at h
  ·rename_i hs;obtain⟨s1,s2⟩:=kX hs hk h1;obtain⟨p,q⟩:=s2 rfl;cases h;refine⟨(fun h=>by cases h),fun n v h=>?_⟩;cases h;exact⟨Nat.le_refl _,e.val,x,e,by simp only[Instr.findNow,s1],h2,by simp,by simp,by rw[p],q⟩
  ·rename_i hs;obtain⟨s1,_⟩:=kX hs hk h1;obtain⟨c,f⟩:=kT (ents:=ents) hk h (by simpa using hl) (fun j x' e' hx he=>hr (j+1) x' e' (by simpa using hx) (by simpa using he));refine⟨fun hn=>by simp only[Instr.findNow,s1];exact c hn,fun n v a=>?_⟩;obtain⟨s,u,x',e',g,l,t,y,o⟩:=f n v a;refine⟨by omega,u,x',e',by simp only[Instr.findNow,s1];exact g,l,?_,?_,o⟩
   ·grind
   ·grind
  ·cases h
def rf (d:TypeDesc):Bool:=
 match d with
 | .int _| .string| .bool=>true
 |_=>false
def rS {t:Ay}{d:TypeDesc}(a:P.underlying t=some d)(hk:rf d=true)(b:Bool)(v:Aw):(Instr.checkKey b 10000 t v).run P w= .ok () w:=by show(Instr.checkKey b (9999+1) t v).run P w= .ok () w;unfold Instr.checkKey;simp only[Sem.run_bind,run_underlying a,Result.andThen_ok];cases d<;>simp[rf]at hk<;>rfl
def fR (P:Ax)(cs:Af):List Field->Bool
 | []=>true|f::fs=>match P.underlying f.type,bJ P f.type cs f.offset with
  |some d,some _=>rf d&&fR P cs fs|_,_=>false
def oD :Af->Af->Bool
 | [],[]=>true| .int k x::xs,.int k' y::ys=>decide (k=k')&&decide (x=y)&&oD xs ys| .bool x::xs,.bool y::ys=>(x==y)&&oD xs ys| .string x::xs,.string y::ys=>(x.data.toList==y.data.toList)&&oD xs ys|_,_=>false
def xsb (a b:Aw):Bool:=
 match a,b with
 | .agg xs,.agg ys=>oD xs.toList ys.toList|_,_=>false
theorem xY :∀ {xs ys c f:Af},oD xs ys=true->VRL σ xs c->VRL σ ys f->c.length=f.length/\(c.zip f).all (fun p=>Instr.sameBits 9999 p.1 p.2)=true:=by
 intro xs;induction xs with
 |nil=>
  intro ys c f h hx hy;cases ys with
  |nil=>rw[hx.unnil,hy.unnil];exact⟨rfl,rfl⟩|cons y ys=>simp[oD]at h
 |cons x xs s=>
  intro ys c f h hx hy;cases ys with
  |nil=>cases x<;>simp[oD]at h
  |cons y ys=>
   obtain⟨x',c,rfl,j,l⟩:=hx.uncons;obtain⟨t,f,rfl,n,o⟩:=hy.uncons;unfold oD at h;split at h
   ·grind
   ·rename_i k a _ k' b _ g i;simp only[List.cons.injEq]at g i;obtain⟨rfl,rfl⟩:=g;obtain⟨rfl,rfl⟩:=i;simp only[Bool.and_eq_true,decide_eq_true_eq]at h;obtain⟨⟨rfl,rfl⟩,h⟩:=h;obtain⟨q,r⟩:=s h l o;cases j;cases n;exact⟨by simp[q],by simp only[List.zip_cons_cons,List.all_cons,r,Bool.and_true];simp[Instr.sameBits]⟩
   ·rename_i a _ b _ g i;simp only[List.cons.injEq]at g i;obtain⟨rfl,rfl⟩:=g;obtain⟨rfl,rfl⟩:=i;simp only[Bool.and_eq_true]at h;obtain⟨h1,h⟩:=h;obtain⟨q,r⟩:=s h l o;cases j;cases n;exact⟨by simp[q],by simp only[List.zip_cons_cons,List.all_cons,r,Bool.and_true];simpa [Instr.sameBits]using h1⟩
   ·rename_i a _ b _ g i;simp only[List.cons.injEq]at g i;obtain⟨rfl,rfl⟩:=g;obtain⟨rfl,rfl⟩:=i;simp only[Bool.and_eq_true]at h;obtain⟨h1,h⟩:=h;obtain⟨q,r⟩:=s h l o;cases j;cases n;have e:(a==b)=(a.data.toList==b.data.toList):=by rw[beq_toListBytes,ByteArray.toList_eq,ByteArray.toList_eq]
    exact⟨by simp[q],by simp only[List.zip_cons_cons,List.all_cons,r,Bool.and_true];simp only[Instr.sameBits,e,h1]⟩
   ·cases h
theorem Cl {a:Aw}(h:xsb a b=true)(ha:VR σ a a')(hb:VR σ b b'):Instr.sameBits 10000 a' b'=true:=by
 unfold xsb at h;split at h
 ·obtain⟨c,rfl,hx⟩:=MG ha;obtain⟨f,rfl,hy⟩:=MG hb;obtain⟨g,i⟩:=xY h hx hy;show Instr.sameBits (9999+1) _ _=true;simp only[Instr.sameBits,Bool.and_eq_true,beq_iff_eq];grind
 ·cases h
def cT (P:Ax)(kt:Ay)(k:Aw):List (Aw×Aw)->Nat->Bc (Bc (Nat×Aw))
 | [],_=>some none|e::es,i=>match xeq P 10000 kt k e.1 with
  |some true=>bif xsb e.1 k then some (some (i,e.2))else none|some false=>cT P kt k es (i+1)|none=>none
def Y7 (P:Ax)(kt:Ay)(d:TypeDesc)(k:Aw)(es:List (Aw×Aw)):Bc (Bc (Nat×Aw)):=
 match d with
 | .struct fs=>match k with
  | .agg cs=>bif fR P cs.toList fs.toList then cT P kt k es 0 else none|_=>none
 |d=>bif rf d then kR d k es 0 else none
theorem iP {kt:Ay}{k k':Aw}(hk:VR σ k k')(w:Be):∀ {es:List (Aw×Aw)} {ents:List MapEntry} {i:Nat} {r:Bc (Nat×Aw)},cT P kt k es i=some r->es.length=ents.length->(∀(j:Nat) x e,es[j]? =some x->ents[j]? =some e->VR σ x.1 e.key/\VR σ x.2 e.val)->(r=none->(Instr.findAsking kt k' ents i).run P w= .ok none w)/\(∀n v,r=some (n,v)->i<=n/\ ∃u x e,(Instr.findAsking kt k' ents i).run P w= .ok (some (n,u)) w/\VR σ v u/\es[n-i]? =some x/\ents[n-i]? =some e/\Instr.sameBits 10000 e.key k'=true)
 | [],ents,i,r,h,hl,_=>by simp only[cT,Option.some.injEq]at h;subst h;have:ents=[]:=List.eq_nil_of_length_eq_zero hl.symm;subst this;exact⟨fun _=>by simp[Instr.findAsking],(fun n v h=>by cases h)⟩|x::es,[],i,r,h,hl,_=>by simp at hl|x::es,e::ents,i,r,h,hl,hr=>by
  obtain⟨h1,h2⟩:=hr 0 x e rfl rfl;simp only[cT]at h;split at h
  ·rename_i hs;have s1:(Op.equal kt k' e.key).run P w= .ok true w:=jM 10000 kt k x.1 true hs k' e.key hk h1 w;cases hb:xsb x.1 k with
   |false=>grind|true=>
   rw[hb,cond_true]at h;cases h;refine⟨(fun h=>by cases h),fun n v h=>?_⟩;cases h;exact⟨Nat.le_refl _,e.val,x,e,by simp only[Instr.findAsking,Sem.run_bind,s1,Result.andThen_ok,if_true,Sem.run_pure],h2,by simp,by simp,Cl hb h1 hk⟩
  ·rename_i hs;have s1:(Op.equal kt k' e.key).run P w= .ok false w:=jM 10000 kt k x.1 false hs k' e.key hk h1 w;obtain⟨a,c⟩:=iP (ents:=ents) hk w h (by simpa using hl) (fun j x' e' hx he=>hr (j+1) x' e' (by simpa using hx) (by simpa using he));have step:(Instr.findAsking kt k' (e::ents) i).run P w=(Instr.findAsking kt k' ents (i+1)).run P w:=by simp only[Instr.findAsking,Sem.run_bind,s1,Result.andThen_ok,Bool.false_eq_true,if_false]
   grind
  ·cases h
theorem oL {t:Ay}{a:Array Field}(c:P.underlying t=some (.struct a)){cs:Af}{cs':Al}(hc:VRL σ cs cs'.toList)(hk:fR P cs a.toList=true)(b:Bool)(w:Be):(Instr.checkKey b 10000 t (.agg cs')).run P w= .ok () w:=by
 have key:∀(l:List Field),fR P cs l=true->(forIn l PUnit.unit (fun f _=>do
   if f.name≠ "_" then Instr.checkKey b 9999 f.type (<-part f.type cs' f.offset)
   pure (ForInStep.yield PUnit.unit)):Sem PUnit).run P w= .ok PUnit.unit w:=by
  intro l;induction l with
  |nil=>intro _;simp
  |cons f l h=>
   intro hl;simp only[fR]at hl;split at hl
   ·rename_i d v hd hp;simp only[Bool.and_eq_true]at hl;obtain⟨u,_,c⟩:=U1 hp hc;have g:∀v,(Instr.checkKey b 9999 f.type v).run P w= .ok () w:=by intro v;show(Instr.checkKey b (9998+1) f.type v).run P w= .ok () w;unfold Instr.checkKey;simp only[Sem.run_bind,run_underlying hd,Result.andThen_ok];have:=hl.1;cases d<;>simp[rf]at this<;>rfl
    simp_all
   ·cases hl
 show(Instr.checkKey b (9999+1) t (.agg cs')).run P w= .ok () w;unfold Instr.checkKey;simp only[Sem.run_bind,run_underlying c,Result.andThen_ok];have:=key a.toList hk;simp_all
variable {k k':Aw}
theorem G4 {kt:Ay}{d:TypeDesc}(hd:P.underlying kt=some d)(hk:VR σ k k'){es:List (Aw×Aw)}{ents:List MapEntry}{r:Bc (Nat×Aw)}(h:Y7 P kt d k es=some r)(hl:es.length=ents.length)(hr:∀(j:Nat) x e,es[j]? =some x->ents[j]? =some e->VR σ x.1 e.key/\VR σ x.2 e.val)(w:Be):(∀b,(Instr.checkKey b 10000 kt k').run P w= .ok () w)/\(r=none->(Instr.findKey kt k' ents).run P w= .ok none w)/\(∀n v,r=some (n,v)-> ∃u x e,(Instr.findKey kt k' ents).run P w= .ok (some (n,u)) w/\VR σ v u/\es[n]? =some x/\ents[n]? =some e/\Instr.sameBits 10000 e.key k'=true):=by
 unfold Y7 at h;split at h
 ·rename_i q;split at h
  ·rename_i cs;obtain⟨cs',rfl,g⟩:=MG hk;cases hb:fR P cs.toList q.toList with
   |false=>grind|true=>
   rw[hb,cond_true]at h;obtain⟨f,l⟩:=iP hk w h hl hr;have i:(Instr.findKey kt (.agg cs') ents).run P w=(Instr.findAsking kt (.agg cs') ents 0).run P w:=by
    simp only[Instr.findKey,Sem.run_bind,run_underlying hd,Result.andThen_ok];cases ents with
    |nil=>simp[Instr.findNow,Instr.findAsking]|cons e ents=>simp[Instr.findNow,Instr.sameNow]
   refine⟨fun b=>oL hd g hb b w,fun hn=>by rw[i];exact f hn,fun n v c=>?_⟩;grind
  ·cases h
 ·cases a:rf d with
  |false=>grind|true=>
   rw[a,cond_true]at h;obtain⟨f,l⟩:=kT hk h hl hr;refine⟨fun b=>rS hd a b k',fun hn=>?_,fun n v c=>?_⟩
   ·simp only[Instr.findKey,Sem.run_bind,run_underlying hd,Result.andThen_ok,f hn,Sem.run_pure]
   ·obtain⟨_,u,x,e,s,t,o,p,_,y⟩:=l n v c;rw[Nat.sub_zero]at o p;exact⟨u,x,e,by simp only[Instr.findKey,Sem.run_bind,run_underlying hd,Result.andThen_ok,s,Sem.run_pure],t,o,p,y⟩
def J6 (P:Ax)(hp:Hp)(t:Ay)(x k:Aw)(ok:Bool):Ag:=
 match P.underlying t with
 |some (.map kt et)=>match P.underlying kt with
  | some d =>
    match(match x with
     | .map none=>some []| .map (some i)=>match hp.m.get i with
      |some (.map es _)=>some es|_=>none
     |_=>none)with
    |none=>none|some es=>match Y7 P kt d k es with
     |some (some (_,v))=>some (bif ok then .tuple #[v,.bool true]else v)|some none=>match D6 P et with
      |some z=>some (bif ok then .tuple #[z,.bool false]else z)|none=>none
     |none=>none
  |none=>none
 |_=>none
variable {x x':Aw}
theorem oU {t:Ay}{ok:Bool}(h:J6 P hp t x k ok=some v)(hx:VR σ x x')(hk:VR σ k k')(hw:HR B w0 σ hp w):∃u,VR σ v u/\(Instr.lookup t x' k' ok).run P w= .ok u w:=by
 unfold J6 at h;split at h
 ·rename_i kt D E;split at h
  ·rename_i d hd;have l:∀(es:List (Aw×Aw)) (ents:List MapEntry),es.length=ents.length->(∀(j:Nat) x e,es[j]? =some x->ents[j]? =some e->VR σ x.1 e.key/\VR σ x.2 e.val)->
     (match Y7 P kt d k es with
      |some (some (_,v))=>some (bif ok then .tuple #[v,.bool true]else v)|some none=>match D6 P D with
       |some z=>some (bif ok then .tuple #[z,.bool false]else z)|none=>none
      |none=>none)=some v->
     (∀b,(Instr.checkKey b 10000 kt k').run P w= .ok () w)/\ ∃u,VR σ v u/\(do
      let(v,ok')<-match<-Instr.findKey kt k' ents with
       |some (_,v)=>pure (v,true)|none=>pure (<-zeroValue D,false)
      pure (if ok then .tuple #[v,.bool ok']else v):Sem Aw).run P w= .ok u w:=by
    intro es ents hl hr h;split at h
    ·rename_i n N hf;obtain⟨g,_,G⟩:=G4 hd hk hf hl hr w;obtain⟨u,R,O,A,r,_⟩:=G n N rfl;cases h;refine⟨g,if ok then .tuple #[u,.bool true]else u,?_,?_⟩
     ·cases ok
      ·exact r
      ·exact VR.tup2 r (.bool true)
     ·simp_all
    ·rename_i hf;obtain⟨g,r,_⟩:=G4 hd hk hf hl hr w;have A:=r rfl;split at h
     ·rename_i z hz;obtain⟨hc,M⟩:=K4 hz;cases h;refine⟨g,if ok then .tuple #[z,.bool false]else z,?_,?_⟩
      ·cases ok
       ·exact U5 σ hc
       ·exact VR.tup2 (U5 σ hc) (.bool false)
      ·simp_all
     ·cases h
    ·cases h
   split at h
   ·cases h
   ·rename_i es a;split at a
    ·simp only[Option.some.injEq]at a;subst a;cases hx;obtain⟨g,u,h1,h2⟩:=l [] [] rfl (fun j x e hx=>by simp at hx) h;refine⟨u,h1,?_⟩;simp only[Instr.lookup,Sem.run_bind,run_underlying E,Result.andThen_ok,Sem.run_pure,g];simp_all;omega
    ·rename_i i;split at a
     ·rename_i y F L;simp only[Option.some.injEq]at a;subst a;cases hx with
      |map _ p C=>
      obtain⟨p',o,H,_,I,ents,s,rfl,J,K,Q⟩:=hw.live i _ L;have:p'=p:=Option.some.inj (H.symm.trans C);subst this;have q:=N6 (P:=P) I (fun c e f h=>by cases h);obtain⟨g,u,h1,h2⟩:=l y ents.toList (by simpa using J.symm) (fun j x e hx he=>K j x e hx (by simpa using he)) h;refine⟨u,h1,?_⟩;simp only[Instr.lookup,Sem.run_bind,run_underlying E,Result.andThen_ok,q,Sem.run_pure,g];simp_all;omega
     ·cases a
    ·cases a
  ·cases h
 ·cases h
def fm (P:Ax)(hp:Hp)(t:Ay)(m k x:Aw):Bc Hp:=
 match P.underlying t with
 |some (.map kt _)=>match P.underlying kt with
  | some d =>
    match m with
    | .map (some i)=>match hp.m.get i with
     |some (.map es reg)=>match Y7 P kt d k es with
      |some (some (n,_))=>some {hp with m:=hp.m.set i (some (.map (es.set n (k,x)) reg))}|some none=>some {hp with m:=hp.m.set i (some (.map (es++ [(k,x)]) reg))}|none=>none
     |_=>none
    |_=>none
  |none=>none
 |_=>none
variable {m m':Aw}
theorem fS {t:Ay}(h:fm P hp t m k x=some hp')(hm:VR σ m m')(hk:VR σ k k')(hx:VR σ x x')(hw:HR B w0 σ hp w):∃w',(Instr.mapUpdate t m' k' x').run P w= .ok () w'/\HR B w0 σ hp' w'/\hp'.nx=hp.nx:=by
 unfold fm at h;split at h
 ·rename_i kt L H;split at h
  ·rename_i d hd;split at h
   ·rename_i i;cases hm with
    |map _ p D=>
    split at h
    ·rename_i es reg A;obtain⟨p',o,s,_,F,ents,a,rfl,G,J,Q⟩:=hw.live i _ A;have:p'=p:=Option.some.inj (s.symm.trans D);subst this;have g:=N6 (P:=P) F (fun c e f h=>by cases h);have hset:=fun o'=>Y3 (P:=P) (o':=o') F (fun c e f h=>by cases h);have hl:es.length=ents.toList.length:=by grind
     have hr:∀(j:Nat) x e,es[j]? =some x->ents.toList[j]? =some e->VR σ x.1 e.key/\VR σ x.2 e.val:=fun j x e hx he=>J j x e hx (by simpa using he);split at h
     ·rename_i n K hf;obtain⟨l,_,f0⟩:=G4 hd hk hf hl hr w;obtain⟨u,R,E,q,M,N,O,I⟩:=f0 n K rfl;have z:ents[n]? =some E:=by grind
      cases h;have C:(Instr.keyThatStays E.key k').run P w= .ok k' w:=by simp only[Instr.keyThatStays,I,if_true,Sem.run_pure]
      refine⟨_,?_,hw.setO A s (b':= .map (es.set n (k,x)) reg) (o:= .map (ents.modify n fun e=> {e with key:=k',val:=x'}) a) ⟨_,_,rfl,by simp[G],fun j y e hy he=>?_,fun r=>?_⟩,rfl⟩
      ·simp only[Instr.mapUpdate,Sem.run_bind,run_underlying H,Result.andThen_ok,g,l,q,z,Option.map_some,Option.getD_some,C,hset]
      ·grind
      ·grind
     ·rename_i hf;obtain⟨l,f0,_⟩:=G4 hd hk hf hl hr w;have q:=f0 rfl;cases h;refine⟨_,?_,hw.setO A s (b':= .map (es++ [(k,x)]) reg) (o:= .map (ents.push {key:=k',val:=x',born:=a}) (a+1)) ⟨_,_,rfl,by simp[G],fun j y e hy he=>?_,fun r=>?_⟩,rfl⟩
      ·simp only[Instr.mapUpdate,Sem.run_bind,run_underlying H,Result.andThen_ok,g,l,q,hset]
      ·grind
      ·grind
     ·cases h
    ·cases h
   ·cases h
  ·cases h
 ·cases h
def R4 (P:Ax)(hp:Hp)(t:Ay)(m k:Aw):Bc (Aw×Hp):=
 match P.underlying t with
 |some (.map kt et)=>match P.underlying kt with
  | some d =>
    match m with
    | .map (some i)=>match hp.m.get i with
     |some (.map es true)=>match Y7 P kt d k es with
      |some (some (n,v))=>match es[n]? with
       |some y=>some (.tuple #[v,.int .i64 n],{hp with m:=hp.m.set i (some (.map (es.set n (k,y.2)) true))})|none=>none
      |some none=>match D6 P et with
       |some z=>some (.tuple #[z,.int .i64 es.length],{hp with m:=hp.m.set i (some (.map (es++ [(k,z)]) true))})|none=>none
      |none=>none
     |_=>none
    |_=>none
  |none=>none
 |_=>none
theorem lw {t:Ay}(h:R4 P hp t m k=some (v,hp'))(hm:VR σ m m')(hk:VR σ k k')(hw:HR B w0 σ hp w):MOK hp B w0 σ v hp' ((Instr.mapEntry t m' k').run P w):=by
 unfold R4 at h;split at h
 ·rename_i kt U J;split at h
  ·rename_i d hd;split at h
   ·rename_i i;cases hm with
    |map _ p G=>
    split at h
    ·rename_i es D;obtain⟨p',o,A,_,I,ents,a,rfl,C,Q,R⟩:=hw.live i _ D;have:p'=p:=Option.some.inj (A.symm.trans G);subst this;obtain⟨K,L⟩:=R rfl;have g:=N6 (P:=P) I (fun c e f h=>by cases h);have hset:=fun o'=>Y3 (P:=P) (o':=o') I (fun c e f h=>by cases h);have hl:es.length=ents.toList.length:=by grind
     have hr:∀(j:Nat) x e,es[j]? =some x->ents.toList[j]? =some e->VR σ x.1 e.key/\VR σ x.2 e.val:=fun j x e hx he=>Q j x e hx (by simpa using he);split at h
     ·rename_i n S hf;obtain⟨l,_,f0⟩:=G4 hd hk hf hl hr w;obtain⟨u,T,s,q,M,N,V,O⟩:=f0 n S rfl;have r:ents[n]? =some s:=by grind
      rw[N]at h;cases h;have F:(Instr.keyThatStays s.key k').run P w= .ok k' w:=by simp only[Instr.keyThatStays,O,if_true,Sem.run_pure]
      refine⟨σ,.tuple #[u,goInt s.born],_,?_,Mq _ σ,?_,hw.setO D A (b':= .map (es.set n (k,T.2)) true) (o:= .map (ents.modify n fun e=> {e with key:=k'}) a) ⟨_,_,rfl,by simp[C],fun j y e hy he=>?_,fun _=>?_⟩⟩
      ·simp only[Instr.mapEntry,Sem.run_bind,run_underlying J,Result.andThen_ok,g,l,q,r,Option.map_some,Option.getD_some,F,hset,Sem.run_pure]
      ·rw[L n s r];exact VR.tup2 M (.int _ _)
      ·grind
      ·grind
     ·rename_i hf;obtain⟨l,f0,_⟩:=G4 hd hk hf hl hr w;have q:=f0 rfl;split at h
      ·rename_i z hz;obtain⟨hc,H⟩:=K4 hz;cases h;refine⟨σ,.tuple #[z,goInt a],_,?_,Mq _ σ,?_,hw.setO D A (b':= .map (es++ [(k,z)]) true) (o:= .map (ents.push {key:=k',val:=z,born:=a}) (a+1)) ⟨_,_,rfl,by simp[C],fun j y e hy he=>?_,fun _=>?_⟩⟩
       ·simp only[Instr.mapEntry,Sem.run_bind,run_underlying J,Result.andThen_ok,g,l,q,H,hset,Sem.run_pure]
       ·rw[K,C];exact VR.tup2 (U5 σ hc) (.int _ _)
       ·rw[List.getElem?_append]at hy;rw[Array.getElem?_push]at he;by_cases hj:j<es.length
        ·grind
        ·rw[if_neg hj]at hy;have E:j-es.length=0:=by grind
         rw[E]at hy;simp only[List.getElem?_cons_zero,Option.some.injEq]at hy;rw[if_pos (by omega)]at he;simp only[Option.some.injEq]at he;subst hy;subst he;exact⟨hk,U5 σ hc⟩
       ·grind
      ·cases h
     ·cases h
    ·cases h
   ·cases h
  ·cases h
 ·cases h
def T7 (hp:Hp)(m s x:Aw):Bc Hp:=
 match m,s with
 | .map (some i),.int _ (.ofNat n)=>match hp.m.get i with
  |some (.map es true)=>match es[n]? with
   |some y=>some {hp with m:=hp.m.set i (some (.map (es.set n (y.1,x)) true))}|none=>none
  |_=>none
 |_,_=>none
theorem iN {t:Ay}{s s':Aw}(h:T7 hp m s x=some hp')(hm:VR σ m m')(hs:VR σ s s')(hx:VR σ x x')(hw:HR B w0 σ hp w):∃w',(Instr.entryStore t m' s' x').run P w= .ok () w'/\HR B w0 σ hp' w'/\hp'.nx=hp.nx:=by
 unfold T7 at h;split at h
 ·rename_i i kd n;cases hm with
  |map _ p q=>
  cases hs;split at h
  ·rename_i es A;obtain⟨p',o,r,_,u,ents,a,rfl,D,H,E⟩:=hw.live i _ A;have:p'=p:=Option.some.inj (r.symm.trans q);subst this;obtain⟨G,C⟩:=E rfl;have g:=N6 (P:=P) u (fun c e f h=>by cases h);have hset:=fun o'=>Y3 (P:=P) (o':=o') u (fun c e f h=>by cases h);split at h
   ·rename_i y hy;cases h;have hn:n<ents.size:=by grind
    have F:ents[n]? =some ents[n]:=by simp[hn]
    have l:ents.findIdx? (fun e=>(e.born:Int)==Int.ofNat n)=some n:=by
     rw[Array.findIdx?_eq_some_iff_getElem];refine⟨hn,?_,fun j hj=>?_⟩
     ·grind
     ·have:=C j ents[j] (by simp[show j<ents.size by omega]);grind
    refine⟨_,?_,hw.setO A r (b':= .map (es.set n (y.1,x)) true) (o:= .map (ents.modify n fun e=> {e with val:=x'}) a) ⟨_,_,rfl,by simp[D],fun j z e hz he=>?_,fun _=>?_⟩,rfl⟩
    ·simp only[Instr.entryStore,Sem.run_bind,Result.andThen_ok,g,asInt,asIntOf,Sem.run_pure,l,hset]
    ·grind
    ·grind
   ·cases h
  ·cases h
 ·cases h
def V3 (hp:Hp)(P:Ax)(t:Ay)(x:Aw):Ag:=
 match P.underlying t,x with
 |some (.map _ _),.map (some i)=>match hp.m.get i with
  |some (.map es _)=>some (.int .i64 es.length)|_=>none
 |_,_=>lu P t x
def vP {t:Ay}(h:V3 hp P t x=some v)(hx:VR σ x x')(hw:HR B w0 σ hp w)(ty:Ay)(ats:Array Ay)(a:ats[0]? =some t):VR σ v v/\(Builtin.len_ ats ty #[x']).run P w= .ok v w:=by
 unfold V3 at h;split at h
 ·rename_i kt y i u;split at h
  ·rename_i es s;cases h;cases hx with
   |map _ p l=>
   obtain⟨p',o,n,_,q,ents,j,rfl,r,z,A⟩:=hw.live i _ s;have:p'=p:=Option.some.inj (n.symm.trans l);subst this;have g:=N6 (P:=P) q (fun c e f h=>by cases h);refine⟨.int _ _,?_⟩;simp[Builtin.len_,a,run_underlying u,g,goInt,r]
  ·cases h
 ·exact⟨(om (P:=P) h hx ty ats a).1,(om (P:=P) h hx ty ats a).2 w⟩
end
end Go.Xe
end PartXmM
noncomputable section PartXmC
namespace Go.Xe
open Go.RowKit
def dB (f:Aw->Aw->Bool):Af->Af->Bool
 | [],[]=>true|x::xs,y::ys=>f x y&&dB f xs ys|_,_=>false
def bL {f:Aw->Aw->Bool}(hf:∀x y,f x y=true->x=y):∀ {xs ys:Af},dB f xs ys=true->xs=ys
 | [],[],_=>rfl|x::xs,y::ys,h=>by simp only[dB,Bool.and_eq_true]at h;rw[hf _ _ h.1,bL hf h.2]| [],_::_,h=>by cases h
 |_::_,[],h=>by cases h
def veq :Nat->Aw->Aw->Bool
 |0,_,_=>false|n+1,x,y=>match x,y with
  | .bool a,.bool b=>a==b| .int j a,.int k b=>decide (j=k)&&decide (a=b)| .string a,.string b=>a.data.toList==b.data.toList| .pointer a,.pointer b=>decide (a=b)| .slice a l c,.slice b l' c'=>decide (a=b)&&Nat.beq l l'&&Nat.beq c c'| .map a,.map b=>decide (a=b)| .nilFunc,.nilFunc=>true| .nilIface,.nilIface=>true| .iface t v,.iface u w=>Nat.beq t u&&veq n v w| .agg a,.agg b=>dB (veq n) a.toList b.toList| .tuple a,.tuple b=>dB (veq n) a.toList b.toList| .func f a c,.func g b d=>decide (f=g)&&dB (veq n) a.toList b.toList&&dB (veq n) c.toList d.toList| .complex f a b,.complex g c d=>decide (f=g)&&Nat.beq a c&&Nat.beq b d| .chan a,.chan b=>decide (a=b)|_,_=>false
theorem jH :∀(n:Nat) (x y:Aw),veq n x y=true->x=y:=by
 intro n;induction n with
 |zero=>intro x y h;cases h
 |succ n c=>
  intro x y h;simp only[veq]at h;split at h
  ·grind
  ·grind
  ·rename_i a b;obtain⟨⟨a⟩⟩:=a;simp_all
  ·grind
  ·simp_all
  ·grind
  ·rfl
  ·rfl
  ·simp only[Bool.and_eq_true]at h;rw[Nat.eq_of_beq_eq_true h.1,c _ _ h.2]
  ·rw[Array.ext' (bL c h)]
  ·rw[Array.ext' (bL c h)]
  ·simp only[Bool.and_eq_true,decide_eq_true_eq]at h;rw[h.1.1,Array.ext' (bL c h.1.2),Array.ext' (bL c h.2)]
  ·simp_all
  ·grind
  ·cases h
section
variable {P :Ax}{B:BS}{w0:Be}{σ:Sg}{hp:Hp}{w:Be}
def jJ (P:Ax)(hp:Hp)(t:Ay)(x:Aw):Bc (Aw×Hp):=
 match P.underlying t with
 |some (.slice e)=>match x with
  | .slice none _ _=>some (.tuple #[],hp)| .slice (some _) 0 _=>some (.tuple #[],hp)| .slice (some ⟨i,o,none⟩) (n+1) _=>match D6 P e with
   |none=>none|some z=>match hp.m.get i with
    | some (.cells c k e' z') => bif Nat.ble (o + (xrep (n + 1) z.cells.toList).length) k && (xrep (n + 1) z.cells.toList).all Value.oneCell' then
      some (.tuple #[],jS hp i c k e' z' o (xrep (n+1) z.cells.toList))
     else none
    |_=>none
  |_=>none
 |some (.map _ _)=>match x with
  | .map none=>some (.tuple #[],hp)| .map (some i)=>match hp.m.get i with
   |some (.map _ _)=>some (.tuple #[],{hp with m:=hp.m.set i (some (.map [] false))})|_=>none
  |_=>none
 |_=>none
variable {v x x':Aw}{hp':Hp}
theorem sA {t:Ay}(h:jJ P hp t x=some (v,hp'))(hx:VR σ x x')(hw:HR B w0 σ hp w)(ty:Ay):MOK hp B w0 σ v hp' ((Builtin.clear_ #[t] ty #[x']).run P w):=by
 have tup:VR σ (.tuple #[]) (.tuple #[]):=VRL.to_tuple (MF σ);unfold jJ at h;split at h
 ·rename_i e ht;split at h
  ·simp only[Option.some.injEq,Prod.mk.injEq]at h;obtain⟨rfl,rfl⟩:=h;cases hx;refine⟨σ,.tuple #[],w,?_,Mq _ σ,tup,hw⟩;simp[Builtin.clear_,run_underlying ht]
  ·simp only[Option.some.injEq,Prod.mk.injEq]at h;obtain⟨rfl,rfl⟩:=h;cases hx<;>exact⟨σ,.tuple #[],w,by simp[Builtin.clear_,run_underlying ht],Mq _ σ,tup,hw⟩
  ·rename_i i o n c0;split at h
   ·cases h
   rename_i z hz;split at h;case h_2=>cases h
   rename_i c k e' M l;cases hx with
   |slice _ _ p _ _ c' g F H=>
   obtain⟨k1,k2⟩:=hw.place l g;cases hb:Nat.ble (o+(xrep (n+1) z.cells.toList).length) k&&(xrep (n+1) z.cells.toList).all Value.oneCell' with
   |false=>grind|true=>
    rw[hb,cond_true,E7]at h;simp only[Bool.and_eq_true]at hb;have G:=Nat.le_of_ble_eq_true hb.1;cases h;obtain⟨hc,A⟩:=K4 hz;have E:VRL σ (xrep (n+1) z.cells.toList) (xrep (n+1) z.cells.toList):=(U5 σ hc).cells.xrep (n+1);have r:=E.all_oneCell hb.2;obtain⟨w',u,hh,_⟩:=hw.store (o:=o) l g E r (by omega) (by omega) P;have s:(Builtin.zeroCells z.cells (n+1)).toList=xrep (n+1) z.cells.toList:=eP z.cells (n+1);refine⟨σ,.tuple #[],w',?_,Mq _ σ,tup,?_⟩
    ·simp[Builtin.clear_,run_underlying ht,A,s,u]
    ·grind
  ·cases h
 ·rename_i kt I ht;split at h
  ·simp only[Option.some.injEq,Prod.mk.injEq]at h;obtain⟨rfl,rfl⟩:=h;cases hx;refine⟨σ,.tuple #[],w,?_,Mq _ σ,tup,hw⟩;simp[Builtin.clear_,run_underlying ht]
  ·rename_i i;split at h;case h_2=>cases h
   rename_i es reg l;cases h;cases hx with
   |map _ p g=>
   obtain⟨p',o,C,_,D,ents,a,rfl,J,K,L⟩:=hw.live i _ l;have:p'=p:=Option.some.inj (C.symm.trans g);subst this;have q:=N6 (P:=P) D (fun c e f h=>by cases h);have hset:=Y3 (P:=P) (o':= .map #[] a) D (fun c e f h=>by cases h);refine⟨σ,.tuple #[],_,?_,Mq _ σ,tup,hw.setO l C (b':= .map [] false) (o:= .map #[] a) ⟨_,_,rfl,rfl,(fun j y e hy he=>by simp at hy),fun hr=>by cases hr⟩⟩;simp[Builtin.clear_,run_underlying ht,q,hset]
  ·cases h
 ·cases h
def Y6 (P:Ax)(hp:Hp)(t u:Ay)(s x:Aw):Bc (Aw×Hp):=
 match P.underlying t, P.underlying u with
 |some (.slice e),some (.int _)=>match P.info? e with
  |none=>none|some ie=>match ie.zero with
   |none=>none|some z=>match s,x with
    | .slice (some ⟨i,o,none⟩) sLen sCap,.int _ (.ofNat cnt)=>
     bif cst z&&Nat.beq z.cells.toList.length ie.size&&Nat.ble ie.bytes 1048576&&Nat.ble 1 ie.size&&Nat.ble 1 cnt&&Nat.ble (sLen+cnt) 67108864&&
       (Nat.ble unk sCap&&Nat.ble 1 (D1 sCap)&&Nat.ble (D1 sCap) (sLen+cnt))then
      match hp.m.get i with
      | some (.cells c k _ _) => bif Nat.ble (o + sLen * ie.size) k then
        match d6 c o (sLen*ie.size)with
        |some olds=>some (.slice (some ⟨hp.nx,0,none⟩) (sLen+cnt) (c8 (sLen+cnt) 0),hp.new (olds++xrep cnt z.cells.toList) e ie.size)|none=>none
       else none
      |_=>none
     else none
    |_,_=>none
 |_,_=>none
theorem nZ {t u:Ay}{s s':Aw}(h:Y6 P hp t u s x=some (v,hp'))(hs:VR σ s s')(hx:VR σ x x')(hw:HR B w0 σ hp w)(ty:Ay):MOK hp B w0 σ v hp' ((Builtin.append_ #[t,u] ty #[s',x']).run P w):=by
 unfold Y6 at h;split at h;case h_2=>cases h
 rename_i e ik ht G;split at h
 ·cases h
 rename_i ie D;split at h
 ·cases h
 rename_i z hz;split at h;case h_2=>cases h
 rename_i i o a l S cnt;cases hb:cst z&&Nat.beq z.cells.toList.length ie.size&&Nat.ble ie.bytes 1048576&&Nat.ble 1 ie.size&&Nat.ble 1 cnt&&Nat.ble (a+cnt) 67108864&&
       (Nat.ble unk l&&Nat.ble 1 (D1 l)&&Nat.ble (D1 l) (a+cnt))with
 |false=>grind|true=>
 rw[hb,cond_true]at h;simp only[Bool.and_eq_true]at hb;obtain⟨⟨⟨⟨⟨⟨b1,b2⟩,b3⟩,b4⟩,b5⟩,A⟩,⟨b7,L⟩,M⟩:=hb;have N:z.cells.size=ie.size:=by simp_all
 have b3:=Nat.le_of_ble_eq_true b3;have b4:=Nat.le_of_ble_eq_true b4;have b5:=Nat.le_of_ble_eq_true b5;have A:=Nat.le_of_ble_eq_true A;have b7:=Nat.le_of_ble_eq_true b7;have L:=Nat.le_of_ble_eq_true L;have M:=Nat.le_of_ble_eq_true M;split at h;case h_2=>cases h
 rename_i c k e' T Q;cases n:Nat.ble (o+a*ie.size) k with
 |false=>grind|true=>
 rw[n,cond_true]at h;have n:=Nat.le_of_ble_eq_true n;split at h;case h_2=>cases h
 rename_i y E;cases h;cases hx;cases hs with
 |slice _ _ p _ _ c' F O R=>
 have hlt:c'<a+cnt:=by grind
 obtain⟨f,I,g,C⟩:=hw.cells Q n E F;have hr:=Lib.run_append_grow_zeros (P:=P) w t u ty e ie z S ik ht G D hz (some ⟨p.blk,p.dl+o,none⟩) a c' f
  (run_firstCells_some w.drew ie.size a _ a c' f g (fun j u G=>(eH (w:=w) (w':=w.drew) rfl _).trans (C j u G))) cnt (by omega) (by omega) hlt (by omega)
  (by have:=Nat.mul_le_mul (show cnt<=67108864 by omega) b3;omega) (growslice_fits hlt (by have:=Nat.mul_le_mul A b3;omega))
 have K:(Builtin.zeroCells z.cells cnt).toList=xrep cnt z.cells.toList:=eP z.cells cnt;have J:VRL σ (xrep cnt z.cells.toList) (Builtin.zeroCells z.cells cnt).toList:=by rw[K];exact(U5 σ b1).cells.xrep cnt
 have q:=I.append J;have hge:=grownCap_ge w (a+cnt) c' e;have r:=hw.grown q (Builtin.zeroCells z.cells (grownCap w (a+cnt) c' e-(a+cnt))) (fill .e 0 (y++xrep cnt z.cells.toList)) (fun j hj=>v8 _ j hj) e ie.size;have H:(f++(Builtin.zeroCells z.cells cnt).toList).length=(a+cnt)*ie.size:=by rw[List.length_append,g,Array.length_toList,size_zeroCells,N,Nat.add_mul]
 rw[show(f++(Builtin.zeroCells z.cells cnt).toList).toArray=f.toArray++Builtin.zeroCells z.cells cnt by apply Array.ext';simp]at r;refine⟨_,_,_,hr,hw.le_new _,VR.unkSlice σ hp.nx ⟨w.heap.size,0,(f++(Builtin.zeroCells z.cells cnt).toList).length+(Builtin.zeroCells z.cells (grownCap w (a+cnt) c' e-(a+cnt))).size,ie.size⟩ rfl hge ?_,?_⟩
 ·show grownCap w (a+cnt) c' e*ie.size<=(f++(Builtin.zeroCells z.cells cnt).toList).length+_;rw[size_zeroCells,H,N,<-Nat.add_mul];grind
 ·simpa [Hp.new]using r
def Ib (P:Ax)(g:Az)(t:Ay):Prop:=
 ∃fn r,P.funcs[g]? =some fn/\(fn.name== "runtime.NumGoroutine")=false/\fn.body.isNone=true/\Extern.findNext fn=none/\Extern.find fn=some (Extern.SlicesOverlaps.overlaps #[t,t] #[r])
def vU (P:Ax)(hp:Hp)(t:Ay)(args:Af):Bc (Aw×Hp):=
 match P.underlying t with
 |some (.slice e)=>match P.info? e with
  |some _=>match args with
   | [.slice (some ⟨i, _, none⟩) _ _, .slice (some ⟨j, _, none⟩) _ _] => bif Nat.beq i j then none else
     match hp.m.get i,hp.m.get j with
     |some (.cells _ _ _ _),some (.cells _ k _ _)=>bif Nat.ble 1 k then some (.bool false,hp)else none|_,_=>none
   |_=>none
  |none=>none
 |_=>none
def fQ :Ay:=4294967295
def isT :Bc Ay->Bool
 |some t=>Nat.beq t fQ|none=>false
def wm (P:Ax)(g:Az):Prop:=∀w,Calls P g #[] w fun e w'=>e= .returned (.bool true)/\Below w.heap.size w w'
def dq (P:Ax)(g:Az)(t:Ay):Prop:=(t=fQ/\wm P g)\/(t≠fQ/\Ib P g t)
def HR.below (h:HR B w0 σ hp w){w':Be}(k:Below w.heap.size w w'):HR B w0 σ hp w':=by
 refine⟨k.os.trans h.os,k.tape.trans h.tape,k.output.trans h.output,Nat.le_trans h.size k.size,h.old,fun i hi=>?_,h.fresh,fun i b j=>?_,h.inj⟩
 ·rw[k.block i (Nat.lt_of_lt_of_le (h.old i hi) h.size)];exact h.kept i hi
 ·obtain⟨p,o,c,f,a,g⟩:=h.live i b j;exact⟨p,o,c,f,by rw[k.block p.blk (Array.getElem?_eq_some_iff.1 a).1];exact a,g⟩
theorem vV {g:Az}{t:Ay}(X:Ib P g t){args args':Af}(h:vU P hp t args=some (v,hp'))(ha:VRL σ args args')(hw:HR B w0 σ hp w):hp'=hp/\ ∃u,VR σ v u/\(callFunc g args'.toArray).run P w= .ok (.value u) w:=by
 unfold vU at h;split at h;case h_2=>cases h
 rename_i e ht;split at h;case h_2=>cases h
 rename_i ie F;split at h;case h_2=>cases h
 rename_i i o1 Z c1 j o2 l2 c2;cases a:Nat.beq i j with
 |true=>grind|false=>
 rw[a,cond_false]at h;have l:i≠j:=fun e=>by rw[e,l6 rfl]at a;cases a
 split at h;case h_2=>cases h
 rename_i ci ki J zi cj Y K zj c f;cases hk:Nat.ble 1 Y with
 |false=>grind|true=>
 rw[hk,cond_true]at h;have hk:=Nat.le_of_ble_eq_true hk;cases h;obtain⟨a1,r,rfl,A,hr⟩:=ha.uncons;obtain⟨a2,r,rfl,E,hr⟩:=hr.uncons;rw[hr.unnil]at*;cases A with
 |slice _ _ p _ _ s n T V=>
 cases E with
 |slice _ _ q _ _ y o U W=>
 obtain⟨fn,rt,L,M,N,O,Q⟩:=X;have G:p.blk≠q.blk:=hw.inj i j _ _ p q c f l n o;refine⟨rfl,.bool false,.bool false,?_⟩;obtain⟨p',C,R,g2,g3,z,g5,g6,g7⟩:=hw.liveC c;have:p'=p:=Option.some.inj (R.symm.trans n);subst this;obtain⟨I,D,m1,m2,m3,m4,m5,m6,m7⟩:=hw.liveC f;have:I=q:=Option.some.inj (m1.symm.trans o);subst this;have H:∀w,(Go.sizeOf e).run P w= .ok ie.size w:=fun w=>by simp[sizeOf,typeInfo,F]
 rw[run_callFunc_extern L M N O Q];have S:=Lib.run_overlaps_apart (P:=P) w t rt e ht ie.size H ⟨p'.blk,p'.dl+o1,none⟩ ⟨I.blk,I.dl+o2,none⟩ Z s l2 y G J K C.size D.size
  (by simp[World.shape?,z]) (by simp[World.shape?,m4]) (by omega) (by simp[World.frozen?,z]) (by simp[World.frozen?,z])
 simp_all
end
end Go.Xe
end PartXmC
noncomputable section PartXm10
namespace Go.Xe
open Go.RowKit
def K3 (tm:Ao):List (Nat×Ba)->Bc (List (Nat×Aw))
 | []=>some []| (i,x)::xs=>match a9 tm x with
  |some v=>match K3 tm xs with
   |some vs=>some ((i,v)::vs)|none=>none
  |none=>none
theorem gM {σ:Sg}{tm:Ao}{a:Act}:∀ {xs:List (Nat×Ba)} {vs:List (Nat×Aw)},(∀p∈xs,∀v,a9 tm p.2=some v->VR σ v (a.eval p.2))->K3 tm xs=some vs->PVR σ vs (xs.map fun p=>(p.1,a.eval p.2))
 | [],vs,_,hx=>by simp[K3]at hx;subst hx;exact⟨rfl,fun i x y h _=>by simp at h⟩| (i,x)::xs,vs,h,hx=>by
  simp only[K3]at hx;cases f:a9 tm x with
  |none=>grind|some v=>
   cases hr:K3 tm xs with
   |none=>grind|some r=>
    simp[f,hr]at hx;subst hx;have c:=gM (fun p hp=>h p (by simp[hp])) hr;refine⟨by simp[c.1],fun j p q hp hq=>?_⟩;cases j with
    |zero=>grind|succ j=>simp only[List.getElem?_cons_succ,List.map_cons]at hp hq;exact c.2 j p q hp hq
def cY (tm:Ao):Bc Ba->Bc (Ag)
 |none=>some none|some x=>match a9 tm x with
  |some v=>some (some v)|none=>none
theorem iT {σ:Sg}{tm:Ao}{a:Act}{x:Bc Ba}(h:∀y,x=some y-> ∀v,a9 tm y=some v->VR σ v (a.eval y)){v:Ag}(hx:cY tm x=some v):OVR σ v (x.map a.eval):=by
 cases x with
 |none=>simp only[cY,Option.some.injEq]at hx;subst hx;exact trivial|some x=>
  simp only[cY]at hx;cases c:a9 tm x with
  |none=>grind|some u=>simp only[c,Option.some.injEq]at hx;subst hx;exact h x rfl _ c
theorem lS {σ:Sg}{tm:Ao}{a:Act}:∀ {xs:List Ba} {vs:Af},(∀x∈xs,∀v,a9 tm x=some v->VR σ v (a.eval x))->W3 tm xs=some vs->VRL σ vs (xs.map a.eval)
 | [],vs,_,hx=>by simp[W3]at hx;subst hx;exact MF σ|x::xs,vs,h,hx=>by
  simp only[W3]at hx;cases c:a9 tm x with
  |none=>grind|some v=>
   cases hr:W3 tm xs with
   |none=>grind|some r=>simp[c,hr]at hx;subst hx;exact ME (h x (by simp) _ c) (lS (fun y hy=>h y (by simp[hy])) hr)
def c9 (hp:Hp):Ag->Bc (Aw×Hp)
 |some v=>some (v,hp)|none=>none
def i3 {hp hp':Hp}{x:Ag}{v:Aw}(h:c9 hp x=some (v,hp')):x=some v/\hp'=hp:=by
 cases x with
 |none=>cases h
 |some u=>simp only[c9,Option.some.injEq,Prod.mk.injEq]at h;exact⟨by rw[h.1],h.2.symm⟩
structure c7 where
 run:Az->Af->Hp->Bc (Aw×Hp)
 ov:Aa
 round:Nat->Af->Hp->Bc (Aw×Hp)
def cC (fn:Func):Bool:=fn.body.isSome&& !(fn.name== "runtime.NumGoroutine")
def l8 (P:Ax)(hp:Hp)(b:Builtin)(ats:List Ay)(args:Af):Bc (Aw×Hp):=
 match b,ats,args with
 | .append,[t,u],[s,x]=>match y9 P hp t u s x with
  |some r=>some r|none=>Y6 P hp t u s x
 | .clear,[t],[x]=>jJ P hp t x| .copy,[t,_],[d,x]=>qp P hp t d x| .len,[t],[x]=>c9 hp (V3 hp P t x)| .cap,[t],[x]=>c9 hp (xQ P t x)| .min,_,x::xs=>c9 hp (dp false x xs)| .max,_,x::xs=>c9 hp (dp true x xs)|_,_,_=>none
def eu (P:Ax)(call:c7)(hp:Hp)(f:Aw)(args:Af):Bc (Aw×Hp):=
 match f with
 | .func (.func g) first captured=>match P.funcs[g]? with
  | some fn => bif cC fn then call.run g (first.toList ++ args ++ captured.toList) hp else
    match call.ov g with
    |some t=>bif Nat.beq t fQ then none else vU P hp t (first.toList++args++captured.toList)|none=>none
  |none=>none
 | .chan (some i)=>call.round i args hp|_=>none
def xnw (P:Ax)(tm:Ao)(o:Op):Bc Nw:=
 match o with
 | .alloc e=>cP P e| .box e x=>match a9 tm x with
  |some v=>some (qm e v)|none=>none
 | .buildSlice t len parts=>match K3 tm parts.toList with
  |some ps=>sw P t len ps|none=>none
 | .makeSlice t l c=>match a9 tm l with
  |some v=>match a9 tm c with
   |some u=>FU P t v u|none=>none
  |none=>none
 | .makeMap t r=>match cY tm r with
  |some v=>match P.underlying t with
   |some (.map _ _)=>zZ v|_=>none
  |none=>none
 | .range t x=>match a9 tm x with
  |some v=>iU P t v|none=>none
 |_=>none
def G9 (hp:Hp):Bc Nw->Bc (Aw×Hp)
 |some n=>some (hp.add n)|none=>none
def oPick (tm:Ao)(hp:Hp)(c:Ba)(a:Ba)(b:Ba):Bc (Aw×Hp):=
 match a9 tm c with
  |some (.bool t)=>bif t then c9 hp (a9 tm a)else c9 hp (a9 tm b)|_=>none
def oNext (tm:Ao)(hp:Hp)(it:Ba)(isS:Bool):Bc (Aw×Hp):=
 match a9 tm it with
  |some v=>ot hp v isS|none=>none
def Hf (P:Ax)(tm:Ao)(hp:Hp)(t:Ay)(x:Ba)(k:Ba)(ok:Bool):Bc (Aw×Hp):=
 match a9 tm x with
  |some v=>match a9 tm k with
   |some u=>c9 hp (J6 P hp t v u ok)|none=>none
  |none=>none
def mV (P:Ax)(tm:Ao)(hp:Hp)(t:Ay)(m:Ba)(k:Ba)(x:Ba):Bc (Aw×Hp):=
 match a9 tm m with
  |some mv=>match a9 tm k with
   |some kv=>match a9 tm x with
    |some xv=>match fm P hp t mv kv xv with
     |some hp'=>some (undef,hp')|none=>none
    |none=>none
   |none=>none
  |none=>none
def Bv (P:Ax)(tm:Ao)(hp:Hp)(t:Ay)(m:Ba)(k:Ba):Bc (Aw×Hp):=
 match a9 tm m with
  |some mv=>match a9 tm k with
   |some kv=>R4 P hp t mv kv|none=>none
  |none=>none
def ut (tm:Ao)(hp:Hp)(m:Ba)(s:Ba)(x:Ba):Bc (Aw×Hp):=
 match a9 tm m with
  |some mv=>match a9 tm s with
   |some sv=>match a9 tm x with
    |some xv=>match T7 hp mv sv xv with
     |some hp'=>some (undef,hp')|none=>none
    |none=>none
   |none=>none
  |none=>none
def Ji (P:Ax)(tm:Ao)(hp:Hp)(t:Ay)(parts:Array (Nat×Ba)):Bc (Aw×Hp):=
 match K3 tm parts.toList with
  |some ps=>c9 hp (R2 P t ps)|none=>none
def oLoad (P:Ax)(tm:Ao)(hp:Hp)(t:Ay)(a:Ba):Bc (Aw×Hp):=
 match a9 tm a with
  |some v=>c9 hp (B0 P hp t v)|none=>none
def Jm (P:Ax)(tm:Ao)(hp:Hp)(t:Ay)(a:Ba)(x:Ba):Bc (Aw×Hp):=
 match a9 tm a with
  |some v=>match a9 tm x with
   |some u=>match A8 P hp t v u with
    |some hp'=>some (undef,hp')|none=>none
   |none=>none
  |none=>none
def Bw (tm:Ao)(hp:Hp)(x:Ba):Bc (Aw×Hp):=
 match a9 tm x with
  |some (.pointer (some p))=>some (.pointer (some p),hp)|some (.func (.func f) a b)=>some (.func (.func f) a b,hp)|_=>none
def Jh (P:Ax)(tm:Ao)(hp:Hp)(op:BinOp)(t:Ay)(x:Ba)(y:Ba):Bc (Aw×Hp):=
 match a9 tm x with
  |some v=>match a9 tm y with
   |some u=>c9 hp (v6 P op t v u)|none=>none
  |none=>none
def oUnOp (tm:Ao)(hp:Hp)(op:UnOp)(x:Ba):Bc (Aw×Hp):=
 match a9 tm x with
  |some v=>c9 hp (xun op v)|none=>none
def Ex (P:Ax)(tm:Ao)(hp:Hp)(s:Ay)(d:Ay)(x:Ba):Bc (Aw×Hp):=
 match a9 tm x with
  |some v=>c9 hp (ew P s d v)|none=>none
def mU (P:Ax)(tm:Ao)(hp:Hp)(t:Ay)(x:Ba):Bc (Aw×Hp):=
 match a9 tm x with
  |some v=>c9 hp (gG P t v)|none=>none
def Bu (tm:Ao)(hp:Hp)(fn:Fn)(first:Array Ba)(captured:Array Ba):Bc (Aw×Hp):=
 match W3 tm first.toList with
  |some fs=>match W3 tm captured.toList with
   |some cs=>some (.func fn fs.toArray cs.toArray,hp)|none=>none
  |none=>none
def Jl (P:Ax)(tm:Ao)(hp:Hp)(t:Ay)(x:Ba)(lo:Bc Ba)(hi:Bc Ba)(mx:Bc Ba):Bc (Aw×Hp):=
 match a9 tm x with
  |some v=>match cY tm lo with
   |some l=>match cY tm hi with
    |some h=>match cY tm mx with
     |some m=>i9 P hp t v l h m|none=>none
    |none=>none
   |none=>none
  |none=>none
def wW (P:Ax)(tm:Ao)(hp:Hp)(t:Ay)(x:Ba)(f:Nat):Bc (Aw×Hp):=
 match a9 tm x with
  |some v=>c9 hp (i7 P t v f)|none=>none
def Jj (P:Ax)(tm:Ao)(hp:Hp)(t:Ay)(x:Ba)(f:Nat):Bc (Aw×Hp):=
 match a9 tm x with
  |some v=>c9 hp (gF P t v f)|none=>none
def wX (P:Ax)(tm:Ao)(hp:Hp)(t:Ay)(x:Ba)(i:Ba):Bc (Aw×Hp):=
 match a9 tm x with
  |some v=>match a9 tm i with
   |some u=>c9 hp (j7 P t v u)|none=>none
  |none=>none
def Jk (P:Ax)(tm:Ao)(hp:Hp)(t:Ay)(x:Ba)(i:Ba):Bc (Aw×Hp):=
 match a9 tm x with
  |some v=>match a9 tm i with
   |some u=>c9 hp (eC P t v u)|none=>none
  |none=>none
def Ey (tm:Ao)(hp:Hp)(x:Ba)(i:Nat):Bc (Aw×Hp):=
 match a9 tm x with
  |some v=>c9 hp (T8 v i)|none=>none
def oCall (P:Ax)(call:c7)(tm:Ao)(hp:Hp)(c:Call):Bc (Aw×Hp):=
 match W3 tm c.args.toList with
  |some args=>match c.callee with
   | .builtin b=>l8 P hp b c.argTypes.toList args| .value f=>match a9 tm f with
    |some v=>eu P call hp v args|none=>none
   |_=>none
  |none=>none
def xop (P:Ax)(call:c7)(tm:Ao)(hp:Hp)(o:Op):Bc (Aw×Hp):=
 Op.rec (motive:=fun _=>Ax->c7->Ao->Hp->Bc (Aw×Hp))
  (fun x _ _ tm hp=>c9 hp (a9 tm x))
  (fun x _ _ tm hp=>c9 hp (a9 tm x))
  (fun c a b _ _ tm hp=>oPick tm hp c a b)
  (fun e P _ tm hp=>G9 hp (xnw P tm (.alloc e)))
  (fun e x P _ tm hp=>G9 hp (xnw P tm (.box e x)))
  (fun t parts P _ tm hp=>Ji P tm hp t parts)
  (fun t len parts P _ tm hp=>G9 hp (xnw P tm (.buildSlice t len parts)))
  (fun t m k x P _ tm hp=>mV P tm hp t m k x)
  (fun t a P _ tm hp=>oLoad P tm hp t a)
  (fun t a x P _ tm hp=>Jm P tm hp t a x)
  (fun _ _ _ _ _=>none)
  (fun _ _ _ _ _=>none)
  (fun x _ _ tm hp=>Bw tm hp x)
  (fun op t x y _ P _ tm hp=>Jh P tm hp op t x y)
  (fun op _ x _ _ tm hp=>oUnOp tm hp op x)
  (fun s d x P _ tm hp=>Ex P tm hp s d x)
  (fun _ _ _ _ _ _=>none)
  (fun t x P _ tm hp=>mU P tm hp t x)
  (fun fn first captured _ _ tm hp=>Bu tm hp fn first captured)
  (fun t r P _ tm hp=>G9 hp (xnw P tm (.makeMap t r)))
  (fun _ _ _ _ _ _=>none)
  (fun t l c P _ tm hp=>G9 hp (xnw P tm (.makeSlice t l c)))
  (fun t x lo hi mx P _ tm hp=>Jl P tm hp t x lo hi mx)
  (fun t x f P _ tm hp=>wW P tm hp t x f)
  (fun t x f P _ tm hp=>Jj P tm hp t x f)
  (fun t x i P _ tm hp=>wX P tm hp t x i)
  (fun t x i P _ tm hp=>Jk P tm hp t x i)
  (fun t x k ok P _ tm hp=>Hf P tm hp t x k ok)
  (fun t m k x P _ tm hp=>mV P tm hp t m k x)
  (fun t m k P _ tm hp=>Bv P tm hp t m k)
  (fun _ m s x _ _ tm hp=>ut tm hp m s x)
  (fun t x P _ tm hp=>G9 hp (xnw P tm (.range t x)))
  (fun it isS _ _ tm hp=>oNext tm hp it isS)
  (fun _ _ _ _ _=>none)
  (fun _ _ _ _ _ _ _ _=>none)
  (fun x i _ _ tm hp=>Ey tm hp x i)
  (fun c P call tm hp=>oCall P call tm hp c)
  (fun _ _ _ _ _=>none)
  (fun _ _ _ _ _=>none)
  (fun _ _ _ _ _=>none)
  (fun _ _ _ _ _ _=>none)
  (fun _ _ _ _ _ _ _=>none)
  (fun _ _ _ _ _ _=>none)
  o P call tm hp
def f7 (P:Ax)(call:c7)(tm:Ao)(hp:Hp)(o:Op):Bc (Aw×Hp):=
 match o with
 | .move x=>c9 hp (a9 tm x)| .assign x=>c9 hp (a9 tm x)| .pick c a b=>match a9 tm c with
  |some (.bool t)=>bif t then c9 hp (a9 tm a)else c9 hp (a9 tm b)|_=>none
 | .alloc e=>G9 hp (xnw P tm (.alloc e))| .box e x=>G9 hp (xnw P tm (.box e x))| .makeMap t r=>G9 hp (xnw P tm (.makeMap t r))| .range t x=>G9 hp (xnw P tm (.range t x))| .next it isS=>match a9 tm it with
  |some v=>ot hp v isS|none=>none
 | .lookup t x k ok=>match a9 tm x with
  |some v=>match a9 tm k with
   |some u=>c9 hp (J6 P hp t v u ok)|none=>none
  |none=>none
 | .mapEntry t m k=>match a9 tm m with
  |some mv=>match a9 tm k with
   |some kv=>R4 P hp t mv kv|none=>none
  |none=>none
 | .entryStore _ m s x=>match a9 tm m with
  |some mv=>match a9 tm s with
   |some sv=>match a9 tm x with
    |some xv=>match T7 hp mv sv xv with
     |some hp'=>some (undef,hp')|none=>none
    |none=>none
   |none=>none
  |none=>none
 | .mapUpdate t m k x=>match a9 tm m with
  |some mv=>match a9 tm k with
   |some kv=>match a9 tm x with
    |some xv=>match fm P hp t mv kv xv with
     |some hp'=>some (undef,hp')|none=>none
    |none=>none
   |none=>none
  |none=>none
 | .insert t m k x=>match a9 tm m with
  |some mv=>match a9 tm k with
   |some kv=>match a9 tm x with
    |some xv=>match fm P hp t mv kv xv with
     |some hp'=>some (undef,hp')|none=>none
    |none=>none
   |none=>none
  |none=>none
 | .build t parts=>match K3 tm parts.toList with
  |some ps=>c9 hp (R2 P t ps)|none=>none
 | .buildSlice t len parts=>G9 hp (xnw P tm (.buildSlice t len parts))| .load t a=>match a9 tm a with
  |some v=>c9 hp (B0 P hp t v)|none=>none
 | .store t a x=>match a9 tm a with
  |some v=>match a9 tm x with
   |some u=>match A8 P hp t v u with
    |some hp'=>some (undef,hp')|none=>none
   |none=>none
  |none=>none
 | .nilCheck x=>match a9 tm x with
  |some (.pointer (some p))=>some (.pointer (some p),hp)|some (.func (.func f) a b)=>some (.func (.func f) a b,hp)|_=>none
 | .binOp op t x y _=>match a9 tm x with
  |some v=>match a9 tm y with
   |some u=>c9 hp (v6 P op t v u)|none=>none
  |none=>none
 | .unOp op _ x=>match a9 tm x with
  |some v=>c9 hp (xun op v)|none=>none
 | .convert s d x=>match a9 tm x with
  |some v=>c9 hp (ew P s d v)|none=>none
 | .makeInterface t x=>match a9 tm x with
  |some v=>c9 hp (gG P t v)|none=>none
 | .makeFunc fn first captured=>match W3 tm first.toList with
  |some fs=>match W3 tm captured.toList with
   |some cs=>some (.func fn fs.toArray cs.toArray,hp)|none=>none
  |none=>none
 | .makeSlice t l c=>G9 hp (xnw P tm (.makeSlice t l c))| .slice t x lo hi mx=>match a9 tm x with
  |some v=>match cY tm lo with
   |some l=>match cY tm hi with
    |some h=>match cY tm mx with
     |some m=>i9 P hp t v l h m|none=>none
    |none=>none
   |none=>none
  |none=>none
 | .fieldAddr t x f=>match a9 tm x with
  |some v=>c9 hp (i7 P t v f)|none=>none
 | .field t x f=>match a9 tm x with
  |some v=>c9 hp (gF P t v f)|none=>none
 | .indexAddr t x i=>match a9 tm x with
  |some v=>match a9 tm i with
   |some u=>c9 hp (j7 P t v u)|none=>none
  |none=>none
 | .index t x i=>match a9 tm x with
  |some v=>match a9 tm i with
   |some u=>c9 hp (eC P t v u)|none=>none
  |none=>none
 | .extract x i=>match a9 tm x with
  |some v=>c9 hp (T8 v i)|none=>none
 | .call c=>match W3 tm c.args.toList with
  |some args=>match c.callee with
   | .builtin b=>l8 P hp b c.argTypes.toList args| .value f=>match a9 tm f with
    |some v=>eu P call hp v args|none=>none
   |_=>none
  |none=>none
 |_=>none
def b9 (P:Ax)(call:c7)(tm:Ao)(hp:Hp)(o:Op):xop P call tm hp o=f7 P call tm hp o:=by cases o<;>rfl
def RF (r:Ai):Fence:= {Fence.wide with round:=r}
def f8 {P:Ax}{r:Ai}{o:Oper}{a:Act}{w:Be}{next:Act->Be->Prop}{Q:Exit->Act->Be->Prop}(nd:∀c,o.op≠ .defer c)(h:o.wp P a w next Q):o.wpIn (RF r) 0 P a w next Q:=by
 have hd:(RF r).depth.isSome=true->1<=0:=fun h=>by cases h
 refine⟨fun _ _=>trivial,?_⟩;rw[Oper.semAt_eq _ _ _ nd];unfold Oper.wp at h;generalize (execOp a.eval o).run P w=x at h;cases x with
 |ok n w'=>
  cases n<;>simp only[Oper.upon]at h<;>simp only[Oper.uponIn]<;>first
   |exact h
   |exact⟨hd,(show CallsIn Fence.wide _ P _ _ _ _ from callsIn_wide.2 h)⟩
   |exact⟨hd,fun c cs _=>let⟨v,w',r,s⟩:=h c cs;⟨v,w',r,(show StepsIn (Machine.fenced P Fence.wide) P _ _ from stepsIn_wide.2 s)⟩⟩
 |halt x w'=>cases x<;>simp only[Oper.upon]at h<;>simp only[Oper.uponIn]<;>exact h
structure L8 (P:Ax)(call:c7):Prop where
 run:∀g args hp v hp',call.run g args hp=some (v,hp')-> ∀B w0 σ w args',VRL σ args args'->HR B w0 σ hp w->
  Calls P g args'.toArray w (fun e w'=>∃σ' u,e= .returned u/\Sg.gr hp.nx hp'.nx σ σ'/\VR σ' v u/\HR B w0 σ' hp' w')
 ov:∀g t,call.ov g=some t->dq P g t
 round:∀i args hp v hp',call.round i args hp=some (v,hp')-> ∀B w0 σ w args' p,σ i=some p->VRL σ args args'->HR B w0 σ hp w->
  ∃r,w.heap[p.blk]? =some (.loop r)/\args'.length=r.params.size/\
   RoundIn Fence.wide 0 P p.blk r.fn ((r.params.zip args'.toArray).foldl (fun tmps (t,a)=>tmps.setIfInBounds t a) r.tmps) r.assign r.body w (fun e w'=>∃σ' u,e= .returned u/\Sg.gr hp.nx hp'.nx σ σ'/\VR σ' v u/\HR B w0 σ' hp' w')
section
variable {P :Ax}{B:BS}{w0:Be}{σ:Sg}{hp:Hp}{w:Be}
variable {v:Aw}
def MOK.of_pure {u:Aw}{s:Sem Aw}(h1:VR σ v u)(h2:∀w,s.run P w= .ok u w)(hw:HR B w0 σ hp w):MOK hp B w0 σ v hp (s.run P w):=
 ⟨σ,u,w,h2 w,Mq _ σ,h1,hw⟩
theorem oe {b:Builtin}{ats:Array Ay}{args:Af}{args':Af}{hp':Hp}(h:l8 P hp b ats.toList args=some (v,hp'))(ha:VRL σ args args')(hw:HR B w0 σ hp w)(ty:Ay)(cs:Array Bool):∃σ' u w',(builtin b ats ty cs args'.toArray).run P w= .ok (.value u) w'/\Sg.gr hp.nx hp'.nx σ σ'/\VR σ' v u/\HR B w0 σ' hp' w':=by
 have c:∀ {s:Sem Aw},MOK hp B w0 σ v hp' (s.run P w)->builtin b ats ty cs args'.toArray=(do pure (.value (<-s)):Sem Next)->
   ∃σ' u w',(builtin b ats ty cs args'.toArray).run P w= .ok (.value u) w'/\Sg.gr hp.nx hp'.nx σ σ'/\VR σ' v u/\HR B w0 σ' hp' w':=by
  intro s hm he;obtain⟨σ',u,w',h1,h2,h3,h4⟩:=hm;refine⟨σ',u,w',?_,h2,h3,h4⟩;simp_all
 unfold l8 at h;split at h
 ·rename_i t u s x a;obtain⟨s',r,rfl,hs,hr⟩:=ha.uncons;obtain⟨x',r,rfl,hx,hr⟩:=hr.uncons;rw[hr.unnil]at*;have:ats= #[t,u]:=by apply Array.ext';exact a
  subst this;split at h
  ·rename_i r g;cases h;exact c (oT g hs hx hw ty) rfl
  ·exact c (nZ h hs hx hw ty) rfl
 ·rename_i t x a;obtain⟨x',r,rfl,hx,hr⟩:=ha.uncons;rw[hr.unnil]at*;have:ats= #[t]:=by apply Array.ext';exact a
  subst this;exact c (sA h hx hw ty) rfl
 ·rename_i t u d x a;obtain⟨s',r,rfl,hs,hr⟩:=ha.uncons;obtain⟨x',r,rfl,hx,hr⟩:=hr.uncons;rw[hr.unnil]at*;have:ats= #[t,u]:=by apply Array.ext';exact a
  subst this;exact c (vM h hs hx hw ty) rfl
 ·rename_i t x a;obtain⟨x',r,rfl,hx,hr⟩:=ha.uncons;rw[hr.unnil]at*;obtain⟨f,rfl⟩:=i3 h;have:ats= #[t]:=by apply Array.ext';exact a
  subst this;obtain⟨h1,h2⟩:=vP (P:=P) f hx hw ty #[t] rfl;exact c (s:=Builtin.len_ #[t] ty #[x']) ⟨σ,_,w,h2,Mq _ σ,h1,hw⟩ rfl
 ·rename_i t x a;obtain⟨x',r,rfl,hx,hr⟩:=ha.uncons;rw[hr.unnil]at*;obtain⟨f,rfl⟩:=i3 h;have:ats= #[t]:=by apply Array.ext';exact a
  subst this;obtain⟨i,h1,h2⟩:=xR (P:=P) f hx ty #[t] rfl;exact c (MOK.of_pure h1 h2 hw) rfl
 ·rename_i x xs;obtain⟨x',r,rfl,hx,hr⟩:=ha.uncons;obtain⟨f,rfl⟩:=i3 h;obtain⟨h1,h2⟩:=oq (P:=P) f hx hr;exact c (s:=Builtin.min_ ats ty (x'::r).toArray) (MOK.of_pure h1 h2 hw) rfl
 ·rename_i x xs;obtain⟨x',r,rfl,hx,hr⟩:=ha.uncons;obtain⟨f,rfl⟩:=i3 h;obtain⟨h1,h2⟩:=oo (P:=P) f hx hr;exact c (s:=Builtin.max_ ats ty (x'::r).toArray) (MOK.of_pure h1 h2 hw) rfl
 ·cases h
theorem cG {g:Az}{fn:Func}{args:Al}(hf:P.funcs[g]? =some fn)(a:cC fn=true)(w:Be):(callFunc g args).run P w= .ok (.enter g args) w:=by
 simp only[cC,Bool.and_eq_true,Bool.not_eq_true']at a;have hb:fn.body.isNone=false:=by simp_all
 simp only[callFunc,Sem.run_bind,run_program,Result.andThen_ok,hf,a.2,hb,Bool.false_eq_true,if_false,Sem.run_pure]
set_option maxHeartbeats 2000000 in
theorem qt {tm:Ao}{o:Oper}{n:Nw}(h:xnw P tm o.op=some n){a:Act}(ht:∀x∈o.op.operands,∀v,a9 tm x=some v->VR σ v (a.eval x)):∃s:Sem Aw,execOp a.eval o=(do pure (.value (<-s)):Sem Next)/\gP P σ n s:=by
 obtain⟨dst,op,type,pos,after,guard⟩:=o;cases op;case alloc e=>exact⟨_,rfl,oS h⟩
 case box e x=>
  simp only[xnw]at h;split at h
  ·rename_i v q;simp only[Option.some.injEq]at h;subst h;exact⟨_,rfl,vI (ht x (by simp[Op.operands]) _ q)⟩
  ·cases h
 case buildSlice t len parts=>
  simp only[xnw]at h;split at h
  ·rename_i ps f;have hp1:=gM (σ:=σ) (a:=a) (fun p hp=>ht p.2 (by simp only[Op.operands,List.mem_toArray];exact List.mem_map.2 ⟨p,hp,rfl⟩)) f;exact⟨_,rfl,xP (ys:=parts.map fun(i,x)=>(i,a.eval x)) h (by simpa using hp1)⟩
  ·cases h
 case makeSlice t l c=>
  simp only[xnw]at h;split at h
  ·rename_i lv hl;split at h
   ·rename_i z hc;exact⟨_,rfl,xS h (ht l (by simp[Op.operands]) _ hl) (ht c (by simp[Op.operands]) _ hc)⟩
   ·cases h
  ·cases h
 case makeMap t r=>
  simp only[xnw]at h;split at h
  ·rename_i u hr;split at h
   ·rename_i kt A j;have g:=iT (σ:=σ) (a:=a) (fun y hy=>ht y (by subst hy;simp[Op.operands])) hr;refine⟨_,rfl,vQ h ?_ (by rw[j];exact trivial)⟩;unfold OVR at g;cases u<;>cases r<;>simp_all
   ·cases h
  ·cases h
 case range t x=>
  simp only[xnw]at h;split at h
  ·rename_i C hx;exact⟨_,rfl,oV h (ht x (by simp[Op.operands]) _ hx)⟩
  ·cases h
 all_goals (simp only[xnw,reduceCtorEq]at h)
set_option maxHeartbeats 2000000 in
def fq {call:c7}(F:L8 P call){tm:Ao}{o:Oper}{hp':Hp}(h:xop P call tm hp o.op=some (v,hp')){a:Act}(ht:∀x∈o.op.operands,∀v,a9 tm x=some v->VR σ v (a.eval x))(hw:HR B w0 σ hp w)(next:Act->Be->Prop)(Q:Exit->Act->Be->Prop)(hn:∀σ' u w',Sg.gr hp.nx hp'.nx σ σ'->VR σ' v u->HR B w0 σ' hp' w'->next (a.put o.dst u) w')(r:Ai):o.wpIn (RF r) 0 P a w next Q:=by
 have val:∀ {s:Sem Aw},MOK hp B w0 σ v hp' (s.run P w)->execOp a.eval o=(do pure (.value (<-s)):Sem Next)->o.wp P a w next Q:=by intro s hm he;obtain⟨σ',u,w',h1,h2,h3,h4⟩:=hm;unfold Oper.wp;rw[he];simp only[Sem.run_bind,h1,Result.andThen_ok,Sem.run_pure,Oper.upon_value];exact hn σ' u w' h2 h3 h4
 have D:∀ {s:Sem Aw} {x:Ag},c9 hp x=some (v,hp')->(x=some v-> ∃u,VR σ v u/\ ∀w,s.run P w= .ok u w)->
   execOp a.eval o=(do pure (.value (<-s)):Sem Next)->o.wp P a w next Q:=by
  intro s x hx hs he;obtain⟨C,rfl⟩:=i3 hx;obtain⟨u,h1,h2⟩:=hs C;exact val (MOK.of_pure h1 h2 hw) he
 have H:∀(q:Op),G9 hp (xnw P tm q)=some (v,hp')->o.op=q->o.wp P a w next Q:=by
  intro q hx hq;cases U:xnw P tm q with
  |none=>rw[U]at hx;cases hx
  |some n=>rw[U]at hx;simp only[G9,Option.some.injEq]at hx;obtain⟨s,h1,h2⟩:=qt (P:=P) (σ:=σ) (o:=o) (by rw[hq];exact U) ht;have hm:=h2.mok hw;rw[hx]at hm;exact val hm h1
 obtain⟨dst,op,type,pos,after,guard⟩:=o;cases op;case move x=>refine f8 (fun _ h=>by cases h) ?_;simp only[b9,f7]at h;obtain⟨C,rfl⟩:=i3 h;exact hn σ _ w (Mq _ σ) (ht _ (by simp[Op.operands]) _ C) hw
 case assign x=>refine f8 (fun _ h=>by cases h) ?_;simp only[b9,f7]at h;obtain⟨C,rfl⟩:=i3 h;exact hn σ _ w (Mq _ σ) (ht _ (by simp[Op.operands]) _ C) hw
 case pick c x y=>
  refine f8 (fun _ h=>by cases h) ?_;simp only[b9,f7]at h;split at h
  ·rename_i t hc;have X:=ht _ (by simp[Op.operands]) _ hc;generalize W:a.eval c=cv at X;cases X;cases t with
   |true=>rw[cond_true]at h;obtain⟨C,rfl⟩:=i3 h;unfold Oper.wp;simp only[execOp,W,asBool,Sem.run_bind,Sem.run_pure,Result.andThen_ok,if_true,Oper.upon_value];exact hn σ _ w (Mq _ σ) (ht _ (by simp[Op.operands]) _ C) hw
   |false=>rw[cond_false]at h;obtain⟨C,rfl⟩:=i3 h;unfold Oper.wp;simp only[execOp,W,asBool,Sem.run_bind,Sem.run_pure,Result.andThen_ok,Bool.false_eq_true,if_false,Oper.upon_value];exact hn σ _ w (Mq _ σ) (ht _ (by simp[Op.operands]) _ C) hw
  ·cases h
 case alloc e=>exact f8 (fun _ h=>by cases h) (H (.alloc e) h rfl)
 case box e x=>exact f8 (fun _ h=>by cases h) (H (.box e x) h rfl)
 case makeMap t r=>exact f8 (fun _ h=>by cases h) (H (.makeMap t r) h rfl)
 case range t x=>exact f8 (fun _ h=>by cases h) (H (.range t x) h rfl)
 case next it isS=>
  refine f8 (fun _ h=>by cases h) ?_;simp only[b9,f7]at h;split at h
  ·rename_i E hx;exact val (vR h (ht _ (by simp[Op.operands]) _ hx) hw type) rfl
  ·cases h
 case lookup t x k ok=>
  refine f8 (fun _ h=>by cases h) ?_;simp only[b9,f7]at h;split at h
  ·rename_i E hx;split at h
   ·rename_i kv hk;obtain⟨J,rfl⟩:=i3 h;obtain⟨u,h1,h2⟩:=oU J (ht _ (by simp[Op.operands]) _ hx) (ht _ (by simp[Op.operands]) _ hk) hw;exact val ⟨σ,u,w,h2,Mq _ σ,h1,hw⟩ rfl
   ·cases h
  ·cases h
 case mapUpdate t m k x=>
  refine f8 (fun _ h=>by cases h) ?_;simp only[b9,f7]at h;split at h
  ·rename_i mv hm;split at h
   ·rename_i kv hk;split at h
    ·rename_i E hx;split at h
     ·rename_i hp2 G;simp only[Option.some.injEq,Prod.mk.injEq]at h;obtain⟨rfl,rfl⟩:=h;obtain⟨w',h1,h2,h3⟩:=fS G (ht _ (by simp[Op.operands]) _ hm) (ht _ (by simp[Op.operands]) _ hk) (ht _ (by simp[Op.operands]) _ hx) hw;unfold Oper.wp;simp only[execOp,Sem.run_bind,h1,Result.andThen_ok,Sem.run_pure,Oper.upon_skip];exact hn σ undef w' (by rw[h3];exact Mq _ σ) (MD σ) h2
     ·cases h
    ·cases h
   ·cases h
  ·cases h
 case mapEntry t m k=>
  refine f8 (fun _ h=>by cases h) ?_;simp only[b9,f7]at h;split at h
  ·rename_i mv hm;split at h
   ·rename_i kv hk;exact val (lw h (ht _ (by simp[Op.operands]) _ hm) (ht _ (by simp[Op.operands]) _ hk) hw) rfl
   ·cases h
  ·cases h
 case entryStore t m s x=>
  refine f8 (fun _ h=>by cases h) ?_;simp only[b9,f7]at h;split at h
  ·rename_i mv hm;split at h
   ·rename_i sv ah;split at h
    ·rename_i E hx;split at h
     ·rename_i hp2 G;simp only[Option.some.injEq,Prod.mk.injEq]at h;obtain⟨rfl,rfl⟩:=h;obtain⟨w',h1,h2,h3⟩:=iN (P:=P) (t:=t) G (ht _ (by simp[Op.operands]) _ hm) (ht _ (by simp[Op.operands]) _ ah) (ht _ (by simp[Op.operands]) _ hx) hw;unfold Oper.wp;simp only[execOp,Sem.run_bind,h1,Result.andThen_ok,Sem.run_pure,Oper.upon_skip];exact hn σ undef w' (by rw[h3];exact Mq _ σ) (MD σ) h2
     ·cases h
    ·cases h
   ·cases h
  ·cases h
 case insert t m k x=>
  refine f8 (fun _ h=>by cases h) ?_;simp only[b9,f7]at h;split at h
  ·rename_i mv hm;split at h
   ·rename_i kv hk;split at h
    ·rename_i E hx;split at h
     ·rename_i hp2 G;simp only[Option.some.injEq,Prod.mk.injEq]at h;obtain⟨rfl,rfl⟩:=h;obtain⟨w',h1,h2,h3⟩:=fS G (ht _ (by simp[Op.operands]) _ hm) (ht _ (by simp[Op.operands]) _ hk) (ht _ (by simp[Op.operands]) _ hx) hw;unfold Oper.wp;simp only[execOp,Sem.run_bind,h1,Result.andThen_ok,Sem.run_pure,Oper.upon_skip];exact hn σ undef w' (by rw[h3];exact Mq _ σ) (MD σ) h2
     ·cases h
    ·cases h
   ·cases h
  ·cases h
 case build t parts=>
  refine f8 (fun _ h=>by cases h) ?_;simp only[b9,f7]at h;split at h
  ·rename_i ps ae;have hp1:=gM (fun p hp=>ht p.2 (by simp only[Op.operands,List.mem_toArray];exact List.mem_map.2 ⟨p,hp,rfl⟩)) ae;exact D h (fun hx=>sy (ys:=parts.map fun(i,x)=>(i,a.eval x)) hx (by simpa using hp1)) rfl
  ·cases h
 case buildSlice t len parts=>exact f8 (fun _ h=>by cases h) (H (.buildSlice t len parts) h rfl)
 case load t x=>
  refine f8 (fun _ h=>by cases h) ?_;simp only[b9,f7]at h;split at h
  ·rename_i E hx;obtain⟨J,rfl⟩:=i3 h;obtain⟨u,h1,h2⟩:=kU J (ht _ (by simp[Op.operands]) _ hx) hw;exact val ⟨σ,u,w,h2,Mq _ σ,h1,hw⟩ rfl
  ·cases h
 case store t x y=>
  refine f8 (fun _ h=>by cases h) ?_;simp only[b9,f7]at h;split at h
  ·rename_i E hx;split at h
   ·rename_i yv hy;split at h
    ·rename_i hp2 G;simp only[Option.some.injEq,Prod.mk.injEq]at h;obtain⟨rfl,rfl⟩:=h;obtain⟨w',h1,h2,h3⟩:=sN G (ht _ (by simp[Op.operands]) _ hx) (ht _ (by simp[Op.operands]) _ hy) hw;unfold Oper.wp;simp only[execOp,Sem.run_bind,h1,Result.andThen_ok,Sem.run_pure,Oper.upon_skip];exact hn σ undef w' (by rw[h3];exact Mq _ σ) (MD σ) h2
    ·cases h
   ·cases h
  ·cases h
 case nilCheck x=>
  refine f8 (fun _ h=>by cases h) ?_;simp only[b9,f7]at h;split at h
  ·rename_i p hx;simp only[Option.some.injEq,Prod.mk.injEq]at h;obtain⟨rfl,rfl⟩:=h;have Z:=ht _ (by simp[Op.operands]) _ hx;generalize V:a.eval x=E at Z;cases Z with
   |ptr i o q hq=>
   unfold Oper.wp;simp only[execOp,V,Sem.run_pure,Oper.upon_value];exact hn σ _ w (Mq _ σ) (.ptr i o q hq) hw
  ·rename_i f fa fb hx;simp only[Option.some.injEq,Prod.mk.injEq]at h;obtain⟨rfl,rfl⟩:=h;have Z:=ht _ (by simp[Op.operands]) _ hx;generalize V:a.eval x=E at Z;cases Z with
   |func _ _ ys _ ds h1 h2 h3 h4=>
   unfold Oper.wp;simp only[execOp,V,Sem.run_pure,Oper.upon_value];exact hn σ _ w (Mq _ σ) (.func _ _ ys _ ds h1 h2 h3 h4) hw
  ·cases h
 case binOp op t x y yt=>
  refine f8 (fun _ h=>by cases h) ?_;simp only[b9,f7]at h;split at h
  ·rename_i E hx;split at h
   ·rename_i yv hy;obtain⟨J,rfl⟩:=i3 h;obtain⟨u0,h1,h2⟩:=vE (P:=P) J (ht _ (by simp[Op.operands]) _ hx) (ht _ (by simp[Op.operands]) _ hy) x y;unfold Oper.wp;simp only[execOp,Sem.run_bind,(h2 w).1,(h2 w).2,Result.andThen_ok,Sem.run_pure,Oper.upon_value];exact hn σ _ w (Mq _ σ) h1 hw
   ·cases h
  ·cases h
 case unOp op t x=>
  refine f8 (fun _ h=>by cases h) ?_;simp only[b9,f7]at h;split at h
  ·rename_i E hx;exact D h (fun hh=>⟨_,Cn hh (ht _ (by simp[Op.operands]) _ hx)⟩) rfl
  ·cases h
 case convert s d x=>
  refine f8 (fun _ h=>by cases h) ?_;simp only[b9,f7]at h;split at h
  ·rename_i E hx;exact D h (fun hh=>vL hh (ht _ (by simp[Op.operands]) _ hx)) rfl
  ·cases h
 case makeInterface t x=>
  refine f8 (fun _ h=>by cases h) ?_;simp only[b9,f7]at h;split at h
  ·rename_i E hx;exact D h (fun hh=>sC hh (ht _ (by simp[Op.operands]) _ hx)) rfl
  ·cases h
 case makeFunc fn first z=>
  refine f8 (fun _ h=>by cases h) ?_;simp only[b9,f7]at h;split at h
  ·rename_i fs ac;split at h
   ·rename_i cs aa;simp only[Option.some.injEq,Prod.mk.injEq]at h;obtain⟨rfl,rfl⟩:=h;have v1:=lS (fun y hy=>ht y (by simp only[Op.operands,Array.mem_append];exact .inl (by simpa using hy))) ac;have v2:=lS (fun y hy=>ht y (by simp only[Op.operands,Array.mem_append];exact .inr (by simpa using hy))) aa;refine hn σ (.func fn (first.map a.eval) (z.map a.eval)) w (Mq _ σ) (.func _ _ _ _ _ ?_ ?_ ?_ ?_) hw
    ·have:=v1.1;simpa using this
    ·intro i x y h1 h2;exact v1.2 i x y (by simpa using h1) (by simpa using h2)
    ·have:=v2.1;simpa using this
    ·intro i x y h1 h2;exact v2.2 i x y (by simpa using h1) (by simpa using h2)
   ·cases h
  ·cases h
 case makeSlice t l c=>exact f8 (fun _ h=>by cases h) (H (.makeSlice t l c) h rfl)
 case slice t x lo hi mx=>
  refine f8 (fun _ h=>by cases h) ?_;simp only[b9,f7]at h;split at h
  ·rename_i E hx;split at h
   ·rename_i l hl;split at h
    ·rename_i hh ad;split at h
     ·rename_i m hm;exact val (sJ h (ht _ (by simp[Op.operands]) _ hx) (iT (fun y hy=>ht y (by subst hy;simp[Op.operands])) hl) (iT (fun y hy=>ht y (by subst hy;simp[Op.operands])) ad) (iT (fun y hy=>ht y (by subst hy;simp[Op.operands])) hm) hw) rfl
     ·cases h
    ·cases h
   ·cases h
  ·cases h
 case fieldAddr t x f=>
  refine f8 (fun _ h=>by cases h) ?_;simp only[b9,f7]at h;split at h
  ·rename_i E hx;exact D h (fun hh=>jN hh (ht _ (by simp[Op.operands]) _ hx)) rfl
  ·cases h
 case field t x f=>
  refine f8 (fun _ h=>by cases h) ?_;simp only[b9,f7]at h;split at h
  ·rename_i E hx;exact D h (fun hh=>sB hh (ht _ (by simp[Op.operands]) _ hx)) rfl
  ·cases h
 case indexAddr t x i=>
  refine f8 (fun _ h=>by cases h) ?_;simp only[b9,f7]at h;split at h
  ·rename_i E hx;split at h
   ·rename_i iv hi;exact D h (fun hh=>jP hh (ht _ (by simp[Op.operands]) _ hx) (ht _ (by simp[Op.operands]) _ hi)) rfl
   ·cases h
  ·cases h
 case index t x i=>
  refine f8 (fun _ h=>by cases h) ?_;simp only[b9,f7]at h;split at h
  ·rename_i E hx;split at h
   ·rename_i iv hi;exact D h (fun hh=>sD hh (ht _ (by simp[Op.operands]) _ hx) (ht _ (by simp[Op.operands]) _ hi)) rfl
   ·cases h
  ·cases h
 case extract x i=>
  refine f8 (fun _ h=>by cases h) ?_;simp only[b9,f7]at h;split at h
  ·rename_i E hx;exact D h (fun hh=>oi hh (ht _ (by simp[Op.operands]) _ hx)) rfl
  ·cases h
 case call c=>
  simp only[b9,f7]at h;obtain⟨M,j,I⟩:=c;split at h
  ·rename_i args R;have N:=lS (fun y hy=>ht y (by simp only[Op.operands,Call.operands,Array.mem_append];exact .inr (by simpa using hy))) R;cases M with
   |invoke r m=>simp only[reduceCtorEq]at h|builtin b=>
    refine f8 (fun _ h=>by cases h) ?_;simp only at h;obtain⟨σ',u,w',h1,h2,h3,h4⟩:=oe (ty:=type) (cs:=j.map fun| .const _=>true|_=>false) h N hw;unfold Oper.wp;have A:(j.toList.map a.eval).toArray=j.map a.eval:=by apply Array.ext';simp
    rw[A]at h1;have K:(execOp a.eval ⟨dst,.call ⟨.builtin b,j,I⟩,type,pos,after,guard⟩).run P w= .ok (.value u) w':=by simp only[execOp,resolve,invoke,Sem.run_bind,Sem.run_pure,Result.andThen_ok];exact h1
    rw[K];exact hn σ' u w' h2 h3 h4
   |value f=>
    simp only at h;split at h
    ·rename_i fv hf;have O:=ht _ (by simp[Op.operands,Call.operands]) _ hf;unfold eu at h;split at h
     ·rename_i g first z
      refine f8 (fun _ h=>by cases h) ?_;generalize S:a.eval f=fe at O;cases O with
      |func _ _ ys _ ds q1 q2 q3 q4=>
      split at h
      ·rename_i fn ab;have vf:VRL σ first.toList ys.toList:=⟨by simpa using q1,fun i x y h1 h2=>q2 i x y (by simpa using h1) (by simpa using h2)⟩
       have vc:VRL σ z.toList ds.toList:=⟨by simpa using q3,fun i x y h1 h2=>q4 i x y (by simpa using h1) (by simpa using h2)⟩
       have A:(ys.toList++j.toList.map a.eval++ds.toList).toArray=ys++j.map a.eval++ds:=by apply Array.ext';simp
       have L:(execOp a.eval ⟨dst,.call ⟨.value f,j,I⟩,type,pos,after,guard⟩).run P w=(callFunc g (ys++j.map a.eval++ds)).run P w:=by simp only[execOp,resolve,S,Deferred.ofValue,invoke,Sem.run_bind,Sem.run_pure,Result.andThen_ok]
       cases ho:cC fn with
       |false=>
        rw[ho,cond_false]at h;split at h
        ·rename_i t0 ai;have Y:t0≠fQ:=fun e=>by rw[e,l6 rfl]at h;cases h
         rw[s7 Y,cond_false]at h;obtain⟨rfl,u,h1,h2⟩:=vV ((F.ov g t0 ai).resolve_left fun e=>Y e.1).2 h ((vf.append N).append vc) hw;rw[A]at h2;unfold Oper.wp;rw[L,h2,Oper.upon_value];exact hn σ u w (Mq _ σ) h1 hw
        ·cases h
       |true=>rw[ho,cond_true]at h;have hc:=F.run g _ hp v hp' h B w0 σ w _ ((vf.append N).append vc) hw;rw[A]at hc;unfold Oper.wp;rw[L,cG ab ho w,Oper.upon_enter];refine hc.mono fun e w' he=>?_;obtain⟨σ',u,rfl,h2,h3,h4⟩:=he;exact hn σ' u w' h2 h3 h4
      ·cases h
     ·rename_i i;generalize S:a.eval f=fe at O;cases O with
      |yield _ p hp0=>
      obtain⟨aj,k1,k2,k3⟩:=F.round i args hp v hp' h B w0 σ w _ p hp0 N hw;have A:(j.toList.map a.eval).toArray=j.map a.eval:=by apply Array.ext';simp
      have K:(execOp a.eval ⟨dst,.call ⟨.value f,j,I⟩,type,pos,after,guard⟩).run P w=(Instr.yield p.blk (j.map a.eval)).run P w:=by simp only[execOp,resolve,S,Deferred.ofValue,invoke,Sem.run_bind,Sem.run_pure,Result.andThen_ok];congr 2;simp
      refine⟨fun _ _=>trivial,?_⟩;rw[Oper.semAt_eq _ _ _ (fun _ h=>by cases h),K,run_yield k1 (by rw[<-k2];simp),Oper.uponIn_round];refine⟨(fun h=>by cases h),?_⟩;rw[A]at k3;refine(show RoundIn (RF r) _ P _ _ _ _ _ _ _ from k3).mono fun e w' he=>?_;obtain⟨σ',u,rfl,h2,h3,h4⟩:=he;exact hn σ' u w' h2 h3 h4
     ·cases h
    ·cases h
  ·cases h
 all_goals (simp only[b9,f7,reduceCtorEq]at h)
end
end Go.Xe
end PartXm10
noncomputable section PartXm11
namespace Go.Xe
open Go.RowKit
def q9 (ops:An)(tm:Ao)(j:Nat):Bc Bool:=
 match ops[j]? with
 |some o=>match o.dst with
  |some d=>match tm.get d with
   |some (.bool b)=>some b|_=>none
  |none=>none
 |none=>none
def e9 (ops:An)(tm:Ao)(o:Oper):Bool:=
 match o.guard with
 |none=>true|some (j,want)=>match q9 ops tm j with
  |some b=>b==want|none=>false
variable {σ:Sg}{nt:Nat}
theorem yf {tm:Ao}{tmps:Al}(h:TR σ nt tm tmps)(ops:Am)(o:Oper):Region.wanted o (yielded ops tmps)=e9 ops.toList tm o:=by
 unfold Region.wanted e9;cases o.guard with
 |none=>rfl|some g=>
  obtain⟨j,f⟩:=g;simp only;have hy:yielded ops tmps j=q9 ops.toList tm j:=by
   unfold yielded q9;rw[Array.getElem?_toList];cases hj:ops[j]? with
   |none=>rfl|some p=>
    simp only[Option.bind_some];cases hd:p.dst with
    |none=>rfl|some d=>
     simp only[Option.bind_some];have:=h.at_ d;by_cases hlt:d<tmps.size
     ·have e:tmps[d]? =some tmps[d]:=by simp[hlt]
      have c:tmps.getD d undef=tmps[d]:=by simp_all
      rw[c]at this;rw[e];cases a:tm.get d with
      |none=>rw[a,Option.getD_none]at this;generalize tmps[d]=x at this;cases this;rfl
      |some v=>rw[a,Option.getD_some]at this;generalize tmps[d]=x at this;cases this<;>rfl
     ·have e:tmps[d]? =none:=Array.getElem?_eq_none (Nat.le_of_not_lt hlt);have c:tmps.getD d undef=undef:=by grind
      rw[c]at this;rw[e];cases a:tm.get d with
      |none=>rfl|some v=>rw[a,Option.getD_some]at this;unfold undef at this;cases this;rfl
  grind
def j0 (tm:Ao)(dst:Bc Tmp)(v:Aw):Ao:=
 match dst with
 |some d=>tm.set d (some v)|none=>tm
def j4 (nt:Nat)(dst:Bc Tmp):Bool:=
 match dst with
 |some d=>Nat.blt d nt|none=>true
def TR.putO {tm:Ao}{a:Act}(h:TR σ nt tm a.tmps){dst:Bc Tmp}(hd:j4 nt dst=true){v u:Aw}(c:VR σ v u):TR σ nt (j0 tm dst v) (a.put dst u).tmps:=by
 cases dst with
 |none=>exact h|some d=>exact h.put (Nat.le_of_ble_eq_true hd) c
def FL (ih:Ao->Hp->Bc (Ao×Hp))(tm:Ao)(dst:Bc Tmp)(r:Bc (Aw×Hp)):Bc (Ao×Hp):=
 Option.rec (motive:=fun _=>Bc (Ao×Hp)) none (fun p=>Prod.rec (motive:=fun _=>Bc (Ao×Hp)) (fun v hp=>(j0 tm dst v).force fun tm'=>ih tm' hp) p) r
def xone (P:Ax)(call:c7)(nt:Nat)(all:An)(o:Oper)(ih:Ao->Hp->Bc (Ao×Hp))(tm:Ao)(hp:Hp):Bc (Ao×Hp):=
 bif j4 nt o.dst then
  bif e9 all tm o then FL ih tm o.dst (xop P call tm hp o.op)
  else(j0 tm o.dst undef).force fun tm'=>ih tm' hp
 else none
def oC (P:Ax)(call:c7)(nt:Nat)(all:An)(l:An):Ao->Hp->Bc (Ao×Hp):=
 List.rec (motive:=fun _=>Ao->Hp->Bc (Ao×Hp)) (fun tm hp=>some (tm,hp)) (fun o _ ih tm hp=>xone P call nt all o ih tm hp) l
variable {P:Ax}{call:c7}
def iS {all:An}{tm:Ao}{hp:Hp}:oC P call nt all [] tm hp=some (tm,hp):=rfl
def L4 {all rest:An}{o:Oper}{tm:Ao}{hp:Hp}:oC P call nt all (o::rest) tm hp=bif j4 nt o.dst then bif e9 all tm o then match xop P call tm hp o.op with
    |some (v,hp')=>oC P call nt all rest (j0 tm o.dst v) hp'|none=>none
   else oC P call nt all rest (j0 tm o.dst undef) hp
  else none:=by
 show xone P call nt all o (oC P call nt all rest) tm hp=_;unfold xone;cases xop P call tm hp o.op with
 |none=>simp only[Mt,FL]|some r=>obtain⟨v,hp'⟩:=r;simp only[Mt,FL]
def dt (n:Nat)(B:BS)(w0:Be)(σ:Sg)(nt:Nat)(e:Exit)(tm:Ao)(hp:Hp)(D:List Deferred):Exit->Act->Be->Prop:=
 fun e' a' w'=>e'=e/\a'.defers=D/\ ∃σ',Sg.gr n hp.nx σ σ'/\TR σ' nt tm a'.tmps/\HR B w0 σ' hp w'
variable {w' w0:Be}{σ':Sg}
def dt.le {B:BS}{n c:Nat}(h:Sg.gr n c σ σ'){e:Exit}{tm:Ao}{hp:Hp}{D:List Deferred}{e':Exit}{a':Act}(hp':dt c B w0 σ' nt e tm hp D e' a' w'):dt n B w0 σ nt e tm hp D e' a' w':=by obtain⟨h1,h2,a,h3,h4,h5⟩:=hp';exact⟨h1,h2,a,Mr h h3,h4,h5⟩
theorem aE {r:Ai}{ops:Am}{Q j:Exit->Act->Be->Prop}(hq:∀e a w,Q e a w->j e a w):∀(l:Ah) {a:Act} {w:Be},wpOpsIn (RF r) 0 P ops Q l a w->wpOpsIn (RF r) 0 P ops j l a w:=by
 have c:LetsOut Q->LetsOut j:=fun⟨a,w,h⟩=>⟨a,w,hq _ _ _ h⟩
 intro l;induction l with
 |nil=>intro a w h;exact hq _ _ _ h
 |cons i rest g=>
  intro a w h;simp only[wpOpsIn]at h⊢;cases p:ops[i]? with
  |none=>grind|some o=>
   simp only[p]at h;simp only;split
   ·rename_i hw;simp only[hw,if_true]at h;unfold Oper.wpIn at h⊢;refine⟨h.1,?_⟩;replace h:=h.2;generalize (o.semAt (RF r).round a.eval).run P w=x at h⊢;cases x with
    |ok n w'=>
     cases n<;>simp only[Oper.uponIn]at h⊢ <;>first
      |exact g h
      | (refine⟨h.1,CallsIn.mono h.2 fun e f he=>?_⟩;cases e<;>first|exact g he|exact hq _ _ _ he|exact c he)
      |exact⟨h.1,RowsIn.mono h.2 fun v f he=>g he⟩
      | (refine⟨h.1,RoundIn.mono h.2 fun e f he=>?_⟩;cases e<;>first|exact g he|exact hq _ _ _ he|exact c he)
    |halt x w'=>cases x<;>simp only[Oper.uponIn]at h⊢ <;>exact hq _ _ _ h
   ·grind
def fO {P:Ax}{F:Fence}{k:Nat}{c:Code}{Q f:Exit->Act->Be->Prop}(hq:∀e a w,Q e a w->f e a w):∀ {n:Nat} {a:Act} {w:Be},Code.roundsIn F k P c Q n a w->Code.roundsIn F k P c f n a w
 |0,_,_,h=>h.elim|n+1,_,_,h=>wpIn_mono h fun e a w he=>by
  cases e with
  |normal=>exact fO hq he|_=>exact hq _ _ _ he
section
variable {P :Ax}{B:BS}{w0:Be}{call:c7}
def TR.ER {σ:Sg}{nt:Nat}{tm:Ao}{a:Act}(h:TR σ nt tm a.tmps)(xs:Array Ba):∀x∈xs,∀v,a9 tm x=some v->VR σ v (a.eval x):=
 fun _ _ _ c=>iO h c
def gt (a:Act)(dst:Bc Tmp)(v:Aw):(a.put dst v).defers=a.defers:=by cases dst<;>rfl
theorem xV (f:L8 P call){nt:Nat}(ops:Am)(r:Ai):∀(l:An) (k:Nat) (tm:Ao) (hp:Hp) (tm':Ao) (hp':Hp) (σ:Sg) (a:Act) (w:Be),(∀j,l[j]? =ops[k+j]?)->oC P call nt ops.toList l tm hp=some (tm',hp')->TR σ nt tm a.tmps->HR B w0 σ hp w-> ∀D,a.defers=D->wpOpsIn (RF r) 0 P ops (dt hp.nx B w0 σ nt .normal tm' hp' D) (List.range' k l.length) a w:=by
 intro l;induction l with
 |nil=>intro k tm hp tm' hp' σ a w _ h ht hw D hd;simp only[iS,Option.some.injEq,Prod.mk.injEq]at h;obtain⟨rfl,rfl⟩:=h;exact⟨rfl,hd,σ,Mq _ σ,ht,hw⟩
 |cons o l s=>
  intro k tm hp tm' hp' σ a w hl h ht hw D hd;have t:ops[k]? =some o:=by simpa using(hl 0).symm
  have g:∀j,l[j]? =ops[k+1+j]? :=fun j=>by have:=hl (j+1);simpa [Nat.add_assoc,Nat.add_comm 1 j]using this
  rw[L4]at h;simp only[List.length_cons,List.range'_succ,wpOpsIn,t];cases c:j4 nt o.dst with
  |false=>grind|true=>
   rw[c,cond_true]at h;rw[yf ht ops o];cases n:e9 ops.toList tm o with
   |true=>
    rw[n,cond_true]at h;rw[if_pos rfl];split at h
    ·rename_i v hp1 hx;refine fq f hx (ht.ER _) hw _ _ (fun σ' u w' i y p=>?_) r;have q:=s (k+1) _ hp1 tm' hp' σ' (a.put o.dst u) w' g h ((ht.mono i.le).putO c y) p D (by rw[gt];exact hd);exact aE (fun e a' w' hq=>dt.le i hq) _ q
    ·cases h
   |false=>rw[n,cond_false]at h;rw[if_neg (by simp)];exact⟨fun _ _=>trivial,s (k+1) _ hp tm' hp' σ _ w g h (ht.putO c (MD σ)) hw D (by rw[gt];exact hd)⟩
end
inductive Df where
 |mark (r:Nat)
 |call (g:Az) (args cap:Af)
def DfR (σ:Sg):Df->Deferred->Prop
 | .mark r,d=>∃p,σ r=some p/\d.target= .collected p.blk| .call g args cap,d=>∃cap',d.target= .fn (.func g) cap'/\VRL σ args d.args.toList/\VRL σ cap cap'.toList
def DsR (σ:Sg):List Df->List Deferred->Prop
 | [],[]=>True|x::xs,d::ds=>DfR σ x d/\DsR σ xs ds|_,_=>False
def DfR.mono (hs:Sg.le σ σ'){x:Df}{d:Deferred}(h:DfR σ x d):DfR σ' x d:=by
 cases x with
 |mark r=>obtain⟨p,h1,h2⟩:=h;exact⟨p,hs _ _ h1,h2⟩
 |call g args cap=>obtain⟨c,h1,h2,h3⟩:=h;exact⟨c,h1,h2.mono hs,h3.mono hs⟩
def DsR.mono (hs:Sg.le σ σ'):∀ {xs:List Df} {ds:List Deferred},DsR σ xs ds->DsR σ' xs ds
 | [],[],_=>trivial|_::_,_::_,h=>⟨h.1.mono hs,DsR.mono hs h.2⟩
 | [],_::_,h=>h.elim|_::_,[],h=>h.elim
def ArR (σ:Sg):Ai->Ai->Prop
 |none,none=>True|some j,some b=>∃p,σ j=some p/\p.blk=b|_,_=>False
def ArR.mono (hs:Sg.le σ σ'){ar r:Ai}(h:ArR σ ar r):ArR σ' ar r:=by cases ar<;>cases r<;>first|exact h| (obtain⟨p,h1,h2⟩:=h;exact⟨p,hs _ _ h1,h2⟩)
inductive XR where
 |mk (e:Exit) (tm:Ao) (hp:Hp) (ds:List Df)
abbrev Q1:=c7->Nat->An->Ao->Hp->Bc (Ao×Hp)
def dz (P:Ax)(dr:Q1):Prop:=
 ∀call,L8 P call-> ∀nt (ops:Am) id tm hp tm' hp',dr call nt ops.toList tm hp=some (tm',hp')-> ∀B w0 σ a w,TR σ nt tm a.tmps->HR B w0 σ hp w-> ∀r,
  (Code.region id ops true).wpIn (RF r) 0 P (dt hp.nx B w0 σ nt .normal tm' hp' a.defers) a w
def sG (R:Bc (Aw×Hp))(l:Nat)(tm:Ao)(ds:List Df):Bc XR:=
 match R with
 |some (_,hp)=>match hp.m.get l with
  |some (.loop .ready pend _ _ _ _ _ _)=>match pend with
   |none=>some (.mk .normal tm {hp with m:=hp.m.set l none} ds)|some _=>none
  |some (.loop .done pend _ _ _ _ _ _)=>match pend with
   |some .ret=>some (.mk .ret tm {hp with m:=hp.m.set l none} ds)|some (.exit id)=>some (.mk (.exit id) tm {hp with m:=hp.m.set l none} ds)|_=>none
  |_=>none
 |none=>none
def gN (P:Ax)(call:c7)(nt:Nat)(ar:Ai)(f:Ba)(ps:Array Tmp)(assign body:Code)(tm:Ao)(hp:Hp)(ds:List Df):Bc XR:=
 match a9 tm f with
 |some (.func (.func g) first captured)=>match P.funcs[g]? with
  | some fn => bif cC fn then
    match ar with
    |none=>sG (call.run g (first.toList++ [.chan (some (hp.nx+1))]++captured.toList) ⟨(hp.m.set hp.nx (some .dfr)).set (hp.nx+1) (some (.loop .ready none nt tm ps assign body hp.nx)),hp.nx+2⟩) (hp.nx+1) tm (.mark hp.nx::ds)|some j=>match hp.m.get j with
     |some (.loop _ _ _ _ _ _ _ db)=>sG (call.run g (first.toList++ [.chan (some hp.nx)]++captured.toList) ⟨hp.m.set hp.nx (some (.loop .ready none nt tm ps assign body db)),hp.nx+1⟩) hp.nx tm ds|_=>none
   else none
  |none=>none
 |_=>none
def JA (tm:Ao)(c:Call):Bc Df:=
 match c.callee with
 | .value f=>match a9 tm f with
  |some (.func (.func g) first captured)=>match W3 tm c.args.toList with
   |some args=>some (.call g (first.toList++args) captured.toList)|none=>none
  |_=>none
 |_=>none
def wz :Op->Bc Call
 | .defer c=>some c|_=>none
def qw (P:Ax)(call:c7)(nt:Nat)(all:An):An->Ao->Hp->List Df->Bc (Ao×Hp×List Df)
 | [],tm,hp,ds=>some (tm,hp,ds)|o::rest,tm,hp,ds=>
  bif j4 nt o.dst then
   bif e9 all tm o then
    match wz o.op with
    |some c=>match JA tm c with
     |some d=>qw P call nt all rest (j0 tm o.dst undef) hp (d::ds)|none=>none
    |none=>match xop P call tm hp o.op with
     |some (v,hp')=>qw P call nt all rest (j0 tm o.dst v) hp' ds|none=>none
   else qw P call nt all rest (j0 tm o.dst undef) hp ds
  else none
def AB (P:Ax)(call:c7)(nt:Nat)(ar:Ai)(ops:An)(draw:Bool)(tm:Ao)(hp:Hp)(ds:List Df):Bc XR:=
 have _:=P
 none
def f9 (P:Ax)(dr:Q1)(call:c7)(nt:Nat)(ar:Ai):Nat->Code->Ao->Hp->List Df->Bc XR
 |0,_,_,_,_=>none|m+1,c,tm,hp,ds=>match c with
  | .skip=>some (.mk .normal tm hp ds)| .label _=>some (.mk .normal tm hp ds)| .region _ ops draw=>match(bif draw then dr call nt ops.toList tm hp else oC P call nt ops.toList ops.toList tm hp)with
   |some (tm',hp')=>some (.mk .normal tm' hp' ds)|none=>AB P call nt ar ops.toList draw tm hp ds
  | .seq x y=>match f9 P dr call nt ar m x tm hp ds with
   |some (.mk .normal tm' hp' ds')=>f9 P dr call nt ar m y tm' hp' ds'|r=>r
  | .cond c x y=>match a9 tm c with
   |some (.bool true)=>f9 P dr call nt ar m x tm hp ds|some (.bool false)=>f9 P dr call nt ar m y tm hp ds|_=>none
  | .block id b=>match f9 P dr call nt ar m b tm hp ds with
   |some (.mk (.exit j) tm' hp' ds')=>bif Nat.beq j id then some (.mk .normal tm' hp' ds')else some (.mk (.exit j) tm' hp' ds')|r=>r
  | .loop b=>match f9 P dr call nt ar m b tm hp ds with
   |some (.mk .normal tm' hp' ds')=>f9 P dr call nt ar m (.loop b) tm' hp' ds'|r=>r
  | .exit id=>some (.mk (.exit id) tm hp ds)| .ret=>some (.mk .ret tm hp ds)| .scope b=>match f9 P dr call nt ar m b tm hp ds with
   |some (.mk .normal tm' hp' ds')=>some (.mk .normal tm' hp' ds')|some (.mk (.exit j) tm' hp' ds')=>some (.mk (.exit j) tm' hp' ds')|some (.mk .ret tm' hp' ds')=>some (.mk .ret tm' hp' ds')|_=>none
  | .rangeFunc f ps assign body=>gN P call nt ar f ps assign body tm hp ds|_=>none
def O3 (n:Nat)(B:BS)(w0:Be)(σ:Sg)(nt:Nat)(e:Exit)(tm:Ao)(hp:Hp)(ds:List Df):Exit->Act->Be->Prop:=
 fun e' a' w'=>e'=e/\ ∃σ',Sg.gr n hp.nx σ σ'/\DsR σ' ds a'.defers/\TR σ' nt tm a'.tmps/\HR B w0 σ' hp w'
def O3.le {B:BS}{n c:Nat}(h:Sg.gr n c σ σ'){e:Exit}{tm:Ao}{hp:Hp}{ds:List Df}{e':Exit}{a':Act}(hp':O3 c B w0 σ' nt e tm hp ds e' a' w'):O3 n B w0 σ nt e tm hp ds e' a' w':=by obtain⟨h1,a,h3,h2,h4,h5⟩:=hp';exact⟨h1,a,Mr h h3,h2,h4,h5⟩
def Mm:type_of% @O3.le:=@O3.le
section
variable {P :Ax}{B:BS}{w0:Be}{call:c7}{dr:Q1}
variable {b:Frame}{k:List Item}{cs:List Frame}
def N9 {a:Act}{w:Be}{c:Code}:step P (lone (b.atR a (.code (.scope c)::k)) cs w)= .next (lone (b.atR a (.code c:: .inScope c::k)) cs w):=
 step_lone_go (by simp[stepG,stepG.exec,Frame.atR])
def oQ {a:Act}{w:Be}{c:Code}:step P (lone (b.atR a (.inScope c::k)) cs w)= .next (lone (b.atR a k) cs w):=
 step_lone_go (by simp[stepG,stepG.exec,Frame.atR])
def fC {F:Fence}{n:Nat}{c:Code}{Q:Exit->Act->Be->Prop}{a:Act}{w:Be}(h:c.wpIn F n P (Exit.noGoto Q) a w):(Code.scope c).wpIn F n P Q a w:=by
 intro b k cs p hb hr;have h0:(lone (b.atR a (.code (.scope c)::k)) cs w).fenced P F:=fenced_calm hb hr rfl;obtain⟨e,g,i,hq,f⟩:=h b (.inScope c::k) cs p hb hr;cases e with
 |normal=>exact⟨.normal,g,i,hq,.head h0 N9 (StepsIn.trans f (.one (fenced_calm hb hr rfl) oQ))⟩|exit q=>
  have hx:exitTo q (.inScope c::k)=exitTo q k:=by simp[exitTo]
  exact⟨.exit q,g,i,hq,fun k' hk=>.head h0 N9 (f.1 k' (by rw[hx];exact hk)),
   fun o hk=>let⟨j,h1,h2⟩:=f.2 o (by rw[hx];exact hk);⟨j,h1,.head h0 N9 h2⟩⟩
 |goto l=>exact hq.elim|ret=>exact⟨_,g,i,hq,.of_steps (.one h0 N9) f⟩|panic ch=>exact⟨_,g,i,hq,.of_steps (.one h0 N9) f⟩|outgrown=>exact⟨_,g,i,hq,.of_steps (.one h0 N9) f⟩
variable {σ:Sg}
def HR.less {hp:Hp}{w:Be}(h:HR B w0 σ hp w){m:T Blk}(hm:∀i b,m.get i=some b->hp.m.get i=some b):HR B w0 σ ⟨m,hp.nx⟩ w:=
 ⟨h.os,h.tape,h.output,h.size,h.old,h.kept,h.fresh,fun i b a=>h.live i b (hm _ _ a),
  fun i j b b' p q hi hj=>h.inj i j b b' p q (hm _ _ hi) (hm _ _ hj)⟩
theorem HR.drop {hp:Hp}{w:Be}(h:HR B w0 σ hp w)(l:Nat):HR B w0 σ {hp with m:=hp.m.set l none} w:=by refine h.less fun i b a=>?_;have a:(hp.m.set l none).get i=some b:=a;rw[Mw]at a;grind
variable {ds ds':List Df}{e:Exit}{tm':Ao}{hp':Hp}{nt:Nat}
theorem iW (A:L8 P call){g l:Nat}{xs:Af}{tm:Ao}{hp:Hp}(h:sG (call.run g xs hp) l tm ds=some (.mk e tm' hp' ds')){p:Pl}(hl:σ l=some p){ys:Af}(M:VRL σ xs ys){w:Be}(hw:HR B w0 σ hp w){a:Act}(ht:TR σ nt tm a.tmps)(hd:DsR σ ds a.defers)(r:Ai)(k:Nat):CallsIn (RF r) k P g ys.toArray w (rangePost (RF r) 0 P p.blk (O3 hp.nx B w0 σ nt e tm' hp' ds') a):=by
 unfold sG at h;split at h
 ·rename_i v hp1 hx;have hc:=A.run g xs hp v hp1 hx B w0 σ w ys M hw;refine(show CallsIn (RF r) k P g ys.toArray w _ from(callsIn_wide (n:=k)).2 hc).mono fun e' L he=>?_;obtain⟨y,u,rfl,gr,_,F⟩:=he;have I:=gr.le _ _ hl;have z:∀st pend s c t f j q,hp1.m.get l=some (.loop st pend s c t f j q)->st≠ .busy->
    ∃C,(Instr.endLoop p.blk).run P L= .ok pend C/\HR B w0 y {hp1 with m:=hp1.m.set l none} C:=by
   intro st pend s c t f j q D K;obtain⟨p',o,q1,q2,S,U⟩:=F.live l _ D;have:p'=p:=Option.some.inj (q1.symm.trans I);subst this;obtain⟨G,rfl,k1,k2,k3,N,O,Q,R⟩:=U;refine⟨L.putObj p'.blk (.loop {G with state:= .exhausted}),?_,?_⟩
   ·rw[run_endLoop S (by rw[k1];exact K),k2]
   ·have hs:=HR.setO (b':= .loop .exhausted pend s c t f j q) F D q1 (o:= .loop {G with state:= .exhausted}) ⟨_,rfl,rfl,k2,k3,N,O,Q,R⟩;have J:=HR.drop hs l;refine J.less fun i b hi=>?_;have hi:(hp1.m.set l none).get i=some b:=hi;show((hp1.m.set l (some _)).set l none).get i=some b;rw[Mw]at hi⊢;by_cases E:i=l
    ·grind
    ·rw[if_neg E]at hi⊢;rw[Mw,if_neg E];exact hi
  split at h
  ·rename_i pend s c t f j q D;obtain⟨C,H,m2⟩:=z _ _ _ _ _ _ _ _ D (by simp);split at h
   ·simp only[Option.some.injEq,XR.mk.injEq]at h;obtain⟨rfl,rfl,rfl,rfl⟩:=h;exact⟨_,C,H,rfl,y,gr,hd.mono gr.le,ht.mono gr.le,m2⟩
   ·cases h
  ·rename_i pend s c t f j q D;obtain⟨C,H,m2⟩:=z _ _ _ _ _ _ _ _ D (by simp);split at h
   ·simp only[Option.some.injEq,XR.mk.injEq]at h;obtain⟨rfl,rfl,rfl,rfl⟩:=h;exact⟨_,C,H,wpIn_ret ⟨rfl,y,gr,hd.mono gr.le,ht.mono gr.le,m2⟩⟩
   ·simp only[Option.some.injEq,XR.mk.injEq]at h;obtain⟨rfl,rfl,rfl,rfl⟩:=h;exact⟨_,C,H,wpIn_exit ⟨rfl,y,gr,hd.mono gr.le,ht.mono gr.le,m2⟩⟩
   ·cases h
  ·cases h
 ·cases h
variable {ar:Ai}
def jT (A:L8 P call){f:Ba}{ps:Array Tmp}{assign body:Code}{tm:Ao}{hp:Hp}(h:gN P call nt ar f ps assign body tm hp ds=some (.mk e tm' hp' ds')){a:Act}{w:Be}{r:Ai}(ht:TR σ nt tm a.tmps)(hw:HR B w0 σ hp w)(hd:DsR σ ds a.defers)(F:ArR σ ar r):(Code.rangeFunc f ps assign body).wpIn (RF r) 0 P (O3 hp.nx B w0 σ nt e tm' hp' ds') a w:=by
 unfold gN at h;split at h
 ·rename_i g first t hf
  have G:=iO ht hf;generalize I:a.eval f=fe at G;cases G with
  |func _ _ ys _ cs q1 q2 q3 q4=>
  have U:VRL σ first.toList ys.toList:=⟨by simpa using q1,fun i x y h1 h2=>q2 i x y (by simpa using h1) (by simpa using h2)⟩
  have vc:VRL σ t.toList cs.toList:=⟨by simpa using q3,fun i x y h1 h2=>q4 i x y (by simpa using h1) (by simpa using h2)⟩
  split at h
  ·rename_i fn J;cases K:cC fn with
   |false=>rw[K]at h;cases h
   |true=>
    rw[K,cond_true]at h;have E:∀l w,(resolve a.eval (rangeCall f l) 0).run P w= .ok {target:= .fn (.func g) cs,args:=ys++ #[Value.func (.yield l) #[] #[]]} w:=by intro l w;simp only[resolve,I,Deferred.ofValue,List.map_toArray,List.map_cons,List.map_nil];rfl
    have D:∀l w,(invoke (.fn (.func g) cs) (ys++ #[Value.func (.yield l) #[] #[]])).run P w= .ok (.enter g (ys.toList++ [Value.func (.yield l) #[] #[]]++cs.toList).toArray) w:=by
     intro l w;have:(ys.toList++ [Value.func (.yield l) #[] #[]]++cs.toList).toArray=ys++ #[Value.func (.yield l) #[] #[]]++cs:=by apply Array.ext';simp
     rw[this];exact cG J K w
    split at h
    ·cases r with
     |some b=>exact F.elim|none=>
      refine wpIn_rangeFunc fun z _=>?_;let C:Pl:=⟨w.heap.size,0,0,0⟩
      let p1:Pl:=⟨w.heap.size+1,0,0,0⟩
      have n0:σ hp.nx=none:=hw.fresh _ (Nat.le_refl _);have R:(σ.ext hp.nx C) (hp.nx+1)=none:=by rw[Mo _ _ _ (by omega)];exact hw.fresh _ (by omega)
      have h1:=hw.allocO hp.nx (hp.nx+1) n0 (Nat.le_succ _) (Nat.lt_succ_self _) .dfr (.deferred (some [])) C rfl rfl;have u:Sg.gr hp.nx (hp.nx+1) σ (σ.ext hp.nx C):=⟨Ms C n0,fun i hi=>Mo _ _ _ (by omega),Nat.le_succ _⟩
      have Q:Sg.gr (hp.nx+1) (hp.nx+2) (σ.ext hp.nx C) ((σ.ext hp.nx C).ext (hp.nx+1) p1):=⟨Ms p1 R,fun i hi=>Mo _ _ _ (by omega),Nat.le_succ _⟩
      have n:=Mr u Q;have e0:((σ.ext hp.nx C).ext (hp.nx+1) p1) hp.nx=some C:=Q.le _ _ (Mp _ _ _);have h2:=h1.allocO (hp.nx+1) (hp.nx+2) R (Nat.le_succ _) (Nat.lt_succ_self _) (.loop .ready none nt tm ps assign body hp.nx)
       (.loop {state:= .ready,pending:=none,fn:=z,tmps:=a.tmps,params:=ps,assign,body,defers:=w.heap.size}) p1 (by simp[p1])
       ⟨_,rfl,rfl,rfl,rfl,rfl,rfl,⟨ht.size,fun k=>(ht.at_ k).mono n.le⟩,C,e0,rfl⟩
      refine⟨_,_,_,_,_,_,_,_,run_enterLoop_outer z a.tmps ps assign body,E _ _,fun _ _=>trivial,D _ _,fun h=>(by cases h),?_⟩;have hs:=iW (B:=B) (w0:=w0) A h (p:=p1) (Mp _ _ _) ((U.mono n.le).append (ME (.yield (hp.nx+1) p1 (Mp _ _ _)) (MF _))|>.append (vc.mono n.le)) h2
       (a:= {a with defers:=[{target:= .collected w.heap.size,args:= #[]}]++a.defers}) (ht.mono n.le) ⟨⟨C,e0,rfl⟩,hd.mono n.le⟩ none (0-1)
      refine hs.mono fun e' w' he=>?_;cases e' with
      |returned v=>
       obtain⟨s,N,k1,k2⟩:=he;refine⟨s,N,k1,?_⟩;cases s with
       |none=>exact Mm n k2|some c=>exact wpIn_mono k2 fun e a w hq=>Mm n hq
      |panicked chain=>exact Mm n he|outgrown=>obtain⟨a0,O,hq⟩:=he;exact⟨a0,O,Mm n hq⟩
    ·rename_i j;cases r with
     |none=>exact F.elim|some b=>
      obtain⟨pj,hj,rfl⟩:=F;split at h
      ·rename_i ac L aa S ab V W db X;obtain⟨H,o,u1,u2,u3,u4⟩:=hw.live j _ X;have:H=pj:=Option.some.inj (u1.symm.trans hj);subst this;obtain⟨M,rfl,k1,k2,k3,k4,k5,k6,q,Y,Z⟩:=u4;refine wpIn_rangeFunc fun z _=>?_;let p1:Pl:=⟨w.heap.size,0,0,0⟩
       have n0:σ hp.nx=none:=hw.fresh _ (Nat.le_refl _);have u:Sg.gr hp.nx (hp.nx+1) σ (σ.ext hp.nx p1):=⟨Ms p1 n0,fun i hi=>Mo _ _ _ (by omega),Nat.le_succ _⟩
       have h2:=hw.allocO hp.nx (hp.nx+1) n0 (Nat.le_succ _) (Nat.lt_succ_self _) (.loop .ready none nt tm ps assign body db)
        (.loop {state:= .ready,pending:=none,fn:=z,tmps:=a.tmps,params:=ps,assign,body,defers:=M.defers}) p1 rfl
        ⟨_,rfl,rfl,rfl,rfl,rfl,rfl,⟨ht.size,fun k=>(ht.at_ k).mono u.le⟩,q,u.le _ _ Y,Z⟩
       refine⟨_,_,_,_,_,_,_,_,run_enterLoop_inner u3 z a.tmps ps assign body,E _ _,fun _ _=>trivial,D _ _,fun h=>(by cases h),?_⟩;have hs:=iW (B:=B) (w0:=w0) A h (p:=p1) (Mp _ _ _) ((U.mono u.le).append (ME (.yield hp.nx p1 (Mp _ _ _)) (MF _))|>.append (vc.mono u.le)) h2
        (a:= {a with defers:=[]++a.defers}) (ht.mono u.le) (hd.mono u.le) (some H.blk) (0-1)
       refine hs.mono fun e' w' he=>?_;cases e' with
       |returned v=>
        obtain⟨s,N,k1,k2⟩:=he;refine⟨s,N,k1,?_⟩;cases s with
        |none=>exact Mm u k2|some c=>exact wpIn_mono k2 fun e a w hq=>Mm u hq
       |panicked chain=>exact Mm u he|outgrown=>obtain⟨a0,O,hq⟩:=he;exact⟨a0,O,Mm u hq⟩
      ·cases h
  ·cases h
 ·cases h
def kW (c:L8 P call){ops:Am}{draw:Bool}{g:Nat}{tm:Ao}{hp:Hp}(h:AB P call nt ar ops.toList draw tm hp ds=some (.mk e tm' hp' ds')){a:Act}{w:Be}{r:Ai}(ht:TR σ nt tm a.tmps)(hw:HR B w0 σ hp w)(hd:DsR σ ds a.defers)(f:ArR σ ar r):(Code.region g ops draw).wpIn (RF r) 0 P (O3 hp.nx B w0 σ nt e tm' hp' ds') a w:=by unfold AB at h;simp at h
theorem O0 (q:L8 P call)(G:dz P dr):∀(m:Nat),(∀(c:Code) (tm:Ao) (hp:Hp) (ds:List Df) (e:Exit) (tm':Ao) (hp':Hp) (ds':List Df) (σ:Sg) (a:Act) (w:Be) (r:Ai),f9 P dr call nt ar m c tm hp ds=some (.mk e tm' hp' ds')->TR σ nt tm a.tmps->HR B w0 σ hp w->DsR σ ds a.defers->ArR σ ar r->c.wpIn (RF r) 0 P (O3 hp.nx B w0 σ nt e tm' hp' ds') a w)/\(∀(c:Code) (tm:Ao) (hp:Hp) (ds:List Df) (e:Exit) (tm':Ao) (hp':Hp) (ds':List Df) (σ:Sg) (a:Act) (w:Be) (r:Ai),f9 P dr call nt ar m (.loop c) tm hp ds=some (.mk e tm' hp' ds')->TR σ nt tm a.tmps->HR B w0 σ hp w->DsR σ ds a.defers->ArR σ ar r->Code.roundsIn (RF r) 0 P c (O3 hp.nx B w0 σ nt e tm' hp' ds') m a w):=by
 intro m;induction m with
 |zero=>exact⟨fun c tm hp ds e tm' hp' ds' σ a w r h=>(by simp[f9]at h),fun c tm hp ds e tm' hp' ds' σ a w r h=>(by simp[f9]at h)⟩|succ m J=>
  obtain⟨u,H⟩:=J;have A:∀(c:Code) (tm:Ao) (hp:Hp) (ds:List Df) (e:Exit) (tm':Ao) (hp':Hp) (ds':List Df) (σ:Sg) (a:Act) (w:Be) (r:Ai),f9 P dr call nt ar (m+1) (.loop c) tm hp ds=some (.mk e tm' hp' ds')->TR σ nt tm a.tmps->HR B w0 σ hp w->DsR σ ds a.defers->ArR σ ar r->
    Code.roundsIn (RF r) 0 P c (O3 hp.nx B w0 σ nt e tm' hp' ds') (m+1) a w:=by
   intro c tm hp ds e tm' hp' ds' σ a w r h ht hw hd p;simp only[f9]at h;rw[roundsIn_succ];cases hb:f9 P dr call nt ar m c tm hp ds with
   |none=>grind|some F=>
    obtain⟨D,tm1,hp1,t⟩:=F;refine wpIn_mono (u c tm hp ds D tm1 hp1 t σ a w r hb ht hw hd p) fun e' a' w' hq=>?_;obtain⟨rfl,σ',g,i,n,o⟩:=hq;cases e' with
    |normal=>simp only[hb]at h;exact fO (fun e a w hq=>Mm g hq) (H c tm1 hp1 t e tm' hp' ds' σ' a' w' r h n o i (p.mono g.le))|exit C=>simp only[hb,Option.some.injEq,XR.mk.injEq]at h;obtain⟨rfl,rfl,rfl,rfl⟩:=h;exact⟨rfl,σ',g,i,n,o⟩
    |goto C=>simp only[hb,Option.some.injEq,XR.mk.injEq]at h;obtain⟨rfl,rfl,rfl,rfl⟩:=h;exact⟨rfl,σ',g,i,n,o⟩
    |ret=>simp only[hb,Option.some.injEq,XR.mk.injEq]at h;obtain⟨rfl,rfl,rfl,rfl⟩:=h;exact⟨rfl,σ',g,i,n,o⟩
    |panic ch=>simp only[hb,Option.some.injEq,XR.mk.injEq]at h;obtain⟨rfl,rfl,rfl,rfl⟩:=h;exact⟨rfl,σ',g,i,n,o⟩
    |outgrown=>simp only[hb,Option.some.injEq,XR.mk.injEq]at h;obtain⟨rfl,rfl,rfl,rfl⟩:=h;exact⟨rfl,σ',g,i,n,o⟩
  refine⟨?_,A⟩;intro c tm hp ds e tm' hp' ds' σ a w r h ht hw hd p;cases c with
  |skip=>simp only[f9,Option.some.injEq,XR.mk.injEq]at h;obtain⟨rfl,rfl,rfl,rfl⟩:=h;exact wpIn_skip ⟨rfl,σ,Mq _ σ,hd,ht,hw⟩
  |label l=>simp only[f9,Option.some.injEq,XR.mk.injEq]at h;obtain⟨rfl,rfl,rfl,rfl⟩:=h;exact wpIn_label ⟨rfl,σ,Mq _ σ,hd,ht,hw⟩
  |exit C=>simp only[f9,Option.some.injEq,XR.mk.injEq]at h;obtain⟨rfl,rfl,rfl,rfl⟩:=h;exact wpIn_exit ⟨rfl,σ,Mq _ σ,hd,ht,hw⟩
  |ret=>simp only[f9,Option.some.injEq,XR.mk.injEq]at h;obtain⟨rfl,rfl,rfl,rfl⟩:=h;exact wpIn_ret ⟨rfl,σ,Mq _ σ,hd,ht,hw⟩
  |region C ops draw=>
   simp only[f9]at h;cases draw with
   |true=>
    simp only[cond_true]at h;split at h
    ·rename_i tm1 hp1 hr;cases h;exact wpIn_mono (G call q nt ops C tm hp _ _ hr B w0 σ a w ht hw r) fun e' a' w' hq=>by obtain⟨h1,h2,σ',h3,h4,h5⟩:=hq;exact⟨h1,σ',h3,by rw[h2];exact hd.mono h3.le,h4,h5⟩
    ·exact kW q h ht hw hd p
   |false=>
    simp only[cond_false]at h;split at h
    ·rename_i tm1 hp1 hr;simp only[Option.some.injEq,XR.mk.injEq]at h;obtain⟨rfl,rfl,rfl,rfl⟩:=h;refine wpIn_mono (Q:=dt hp.nx B w0 σ nt .normal tm1 hp1 a.defers) (wpIn_region ?_) fun e' a' w' hq=>by obtain⟨h1,h2,σ',h3,h4,h5⟩:=hq;exact⟨h1,σ',h3,by rw[h2];exact hd.mono h3.le,h4,h5⟩
     have:=xV (B:=B) (w0:=w0) q ops r ops.toList 0 tm hp _ _ σ a w (by simp) hr ht hw a.defers rfl;rw[List.range_eq_range'];grind
    ·exact kW q h ht hw hd p
  |seq x y=>
   simp only[f9]at h;cases hb:f9 P dr call nt ar m x tm hp ds with
   |none=>grind|some F=>
    obtain⟨D,tm1,hp1,t⟩:=F;refine wpIn_seq (wpIn_mono (u x tm hp ds D tm1 hp1 t σ a w r hb ht hw hd p) fun e' a' w' hq=>?_);obtain⟨rfl,σ',g,i,n,o⟩:=hq;cases e' with
    |normal=>simp only[hb]at h;exact wpIn_mono (u y tm1 hp1 t e tm' hp' ds' σ' a' w' r h n o i (p.mono g.le)) (fun e a w hq=>Mm g hq)|exit C=>simp only[hb,Option.some.injEq,XR.mk.injEq]at h;obtain⟨rfl,rfl,rfl,rfl⟩:=h;exact⟨rfl,σ',g,i,n,o⟩
    |goto C=>simp only[hb,Option.some.injEq,XR.mk.injEq]at h;obtain⟨rfl,rfl,rfl,rfl⟩:=h;exact⟨rfl,σ',g,i,n,o⟩
    |ret=>simp only[hb,Option.some.injEq,XR.mk.injEq]at h;obtain⟨rfl,rfl,rfl,rfl⟩:=h;exact⟨rfl,σ',g,i,n,o⟩
    |panic ch=>simp only[hb,Option.some.injEq,XR.mk.injEq]at h;obtain⟨rfl,rfl,rfl,rfl⟩:=h;exact⟨rfl,σ',g,i,n,o⟩
    |outgrown=>simp only[hb,Option.some.injEq,XR.mk.injEq]at h;obtain⟨rfl,rfl,rfl,rfl⟩:=h;exact⟨rfl,σ',g,i,n,o⟩
  |cond c x y=>
   simp only[f9]at h;split at h
   ·rename_i hc;have z:=iO ht hc;generalize E:a.eval c=I at z;cases z;exact wpIn_cond_true E (u x tm hp ds e tm' hp' ds' σ a w r h ht hw hd p)
   ·rename_i hc;have z:=iO ht hc;generalize E:a.eval c=I at z;cases z;exact wpIn_cond_false E (u y tm hp ds e tm' hp' ds' σ a w r h ht hw hd p)
   ·cases h
  |block C b=>
   simp only[f9]at h;cases hb:f9 P dr call nt ar m b tm hp ds with
   |none=>grind|some F=>
    obtain⟨D,tm1,hp1,t⟩:=F;refine wpIn_block (wpIn_mono (u b tm hp ds D tm1 hp1 t σ a w r hb ht hw hd p) fun e' a' w' hq=>?_);obtain⟨rfl,σ',g,i,n,o⟩:=hq;cases e' with
    |normal=>simp only[hb,Option.some.injEq,XR.mk.injEq]at h;obtain⟨rfl,rfl,rfl,rfl⟩:=h;exact⟨rfl,σ',g,i,n,o⟩
    |exit j=>
     simp only[hb]at h;by_cases hj:j=C
     ·subst hj;rw[l6 rfl,cond_true]at h;cases h;simp only[Exit.inBlock,if_true];exact⟨rfl,σ',g,i,n,o⟩
     ·rw[s7 hj,cond_false]at h;cases h;simp only[Exit.inBlock,hj,if_false];exact⟨rfl,σ',g,i,n,o⟩
    |goto C=>simp only[hb,Option.some.injEq,XR.mk.injEq]at h;obtain⟨rfl,rfl,rfl,rfl⟩:=h;exact⟨rfl,σ',g,i,n,o⟩
    |ret=>simp only[hb,Option.some.injEq,XR.mk.injEq]at h;obtain⟨rfl,rfl,rfl,rfl⟩:=h;exact⟨rfl,σ',g,i,n,o⟩
    |panic ch=>simp only[hb,Option.some.injEq,XR.mk.injEq]at h;obtain⟨rfl,rfl,rfl,rfl⟩:=h;exact⟨rfl,σ',g,i,n,o⟩
    |outgrown=>simp only[hb,Option.some.injEq,XR.mk.injEq]at h;obtain⟨rfl,rfl,rfl,rfl⟩:=h;exact⟨rfl,σ',g,i,n,o⟩
  |loop b=>exact wpIn_loop_rounds (m+1) (A b tm hp ds e tm' hp' ds' σ a w r h ht hw hd p)|rangeFunc f ps x y=>exact jT q (by simpa only[f9]using h) ht hw hd p|scope b=>
   simp only[f9]at h;cases hb:f9 P dr call nt ar m b tm hp ds with
   |none=>grind|some F=>
    obtain⟨D,tm1,hp1,t⟩:=F;refine fC (wpIn_mono (u b tm hp ds D tm1 hp1 t σ a w r hb ht hw hd p) fun e' a' w' hq=>?_);obtain⟨rfl,σ',g,i,n,o⟩:=hq;cases e' with
    |normal=>simp only[hb,Option.some.injEq,XR.mk.injEq]at h;obtain⟨rfl,rfl,rfl,rfl⟩:=h;exact⟨rfl,σ',g,i,n,o⟩
    |exit C=>simp only[hb,Option.some.injEq,XR.mk.injEq]at h;obtain⟨rfl,rfl,rfl,rfl⟩:=h;exact⟨rfl,σ',g,i,n,o⟩
    |goto C=>grind|ret=>simp only[hb,Option.some.injEq,XR.mk.injEq]at h;obtain⟨rfl,rfl,rfl,rfl⟩:=h;exact⟨rfl,σ',g,i,n,o⟩
    |panic ch=>grind|outgrown=>grind
  |goto l=>simp only[f9,reduceCtorEq]at h|refuse s=>simp only[f9,reduceCtorEq]at h
end
def P6 (P:Ax)(tm:Ao)(hp:Hp):ResultVar->Ag
 | .tmp t=>some ((tm.get t).getD undef)| .cell a t=>B0 P hp t ((tm.get a).getD undef)
def C8 (P:Ax)(tm:Ao)(hp:Hp):List ResultVar->Bc (Af)
 | []=>some []|r::rs=>match P6 P tm hp r with
  |some v=>match C8 P tm hp rs with
   |some vs=>some (v::vs)|none=>none
  |none=>none
def bI :Af->Aw
 | [v]=>v|vs=>.tuple vs.toArray
section
variable {P :Ax}{B:BS}{w0:Be}
def Ci {σ:Sg}{hp:Hp}{w:Be}{t:Ay}{a a' v:Aw}(h:B0 P hp t a=some v)(ha:VR σ a a')(hw:HR B w0 σ hp w):∃u,VR σ v u/\(do loadVar t (<-asAddr a'):Sem Aw).run P w= .ok u w:=by obtain⟨u,h1,h2⟩:=kU h ha hw;refine⟨u,h1,?_⟩;rw[<-h2];cases ha<;>first|rfl| (simp[B0]at h)
def pV (tmps:Al):ResultVar->Sem Aw
 | .tmp t=>pure (tmps.getD t undef)| .cell a t=>do loadVar t (<-asAddr (tmps.getD a undef))
theorem P7 {σ:Sg}{hp:Hp}{w:Be}{nt:Nat}{tm:Ao}{tmps:Al}(ht:TR σ nt tm tmps)(hw:HR B w0 σ hp w):∀ {f:List ResultVar} {vs:Af},C8 P tm hp f=some vs-> ∃us,VRL σ vs us/\(f.mapM (pV tmps):Sem (Af)).run P w= .ok us w
 | [],vs,h=>by simp only[C8,Option.some.injEq]at h;subst h;exact⟨[],MF σ,by simp⟩|r::f,vs,h=>by
  simp only[C8]at h;cases hr:P6 P tm hp r with
  |none=>grind|some v=>
   cases c:C8 P tm hp f with
   |none=>grind|some i=>
    simp only[hr,c,Option.some.injEq]at h;subst h;obtain⟨us,h1,h2⟩:=P7 ht hw c;cases r with
    |tmp t=>simp only[P6,Option.some.injEq]at hr;subst hr;refine⟨_::us,ME (ht.at_ t) h1,?_⟩;rw[List.mapM_cons];simp only[pV,Sem.run_bind,Sem.run_pure,Result.andThen_ok,h2]|cell a t=>simp only[P6]at hr;obtain⟨u,h3,h4⟩:=Ci hr (ht.at_ a) hw;refine⟨u::us,ME h3 h1,?_⟩;rw[List.mapM_cons,Sem.run_bind];have g:(pV tmps (.cell a t)).run P w= .ok u w:=h4;simp_all
theorem TR.start {σ:Sg}{args args':Af}(h:VRL σ args args')(n:Nat):TR σ (args.length+(n-args.length)) (fill .e 0 args) (args'.toArray++Array.replicate (n-args'.toArray.size) undef):=by
 have hl:=h.1;refine⟨by simp[hl],fun k=>?_⟩;rw[f6];by_cases hk:k<args.length
 ·rw[if_pos (by omega)];have a:k<args'.length:=by omega
  have f:args[k-0]? =some args[k]:=by simp[hk]
  have c:(args'.toArray++Array.replicate (n-args'.toArray.size) undef).getD k undef=args'[k]:=by simp[Array.getElem?_append,a]
  rw[f,c];exact h.2 k _ _ (by simp[hk]) (by simp[a])
 ·rw[if_neg (by omega)];have c:(args'.toArray++Array.replicate (n-args'.toArray.size) undef).getD k undef=undef:=by
   have a:¬k<args'.length:=by omega
   simp only[Array.getD_eq_getD_getElem?,Array.getElem?_append,List.size_toArray,a,if_false,Array.getElem?_replicate];grind
  rw[c];rw[Mu];exact MD σ
end
end Go.Xe
end PartXm11
noncomputable section PartXm12
namespace Go.Xe
open Go.RowKit
def d5 :Op->Nat
 | .move _| .assign _| .pick _ _ _| .build _ _| .nilCheck _| .binOp _ _ _ _ _| .unOp _ _ _| .convert _ _ _| .makeInterface _ _| .makeFunc _ _ _
 | .fieldAddr _ _ _| .field _ _ _| .indexAddr _ _ _| .index _ _ _| .extract _ _=>0
 | .load _ _| .slice _ _ _ _ _| .lookup _ _ _ _| .call ⟨.builtin .len,_,_⟩=>1
 | .alloc _| .box _ _| .buildSlice _ _ _| .makeSlice _ _ _| .makeMap _ _| .range _ _=>2
 | .call ⟨.builtin .cap,_,_⟩| .call ⟨.builtin .min,_,_⟩| .call ⟨.builtin .max,_,_⟩=>0
 |_=>3
variable {P:Ax}{call:c7}
def oB {tm:Ao}{o:Op}(h:d5 o=0):∃r:Ag,∀hp,xop P call tm hp o=c9 hp r:=by
 cases o with
 |move x=>exact⟨_,fun _=>rfl⟩|assign x=>exact⟨_,fun _=>rfl⟩|pick c a b=>
  simp only[b9,f7];split
  ·rename_i t _;cases t<;>exact⟨_,fun _=>rfl⟩
  ·exact⟨none,fun _=>rfl⟩
 |build t ps=>simp only[b9,f7];split<;>first|exact⟨_,fun _=>rfl⟩|exact⟨none,fun _=>rfl⟩
 |nilCheck x=>
  simp only[b9,f7];split
  ·exact⟨some _,fun _=>rfl⟩
  ·exact⟨some _,fun _=>rfl⟩
  ·exact⟨none,fun _=>rfl⟩
 |binOp op t x y n=>
  simp only[b9,f7];split
  ·split<;>first|exact⟨_,fun _=>rfl⟩|exact⟨none,fun _=>rfl⟩
  ·exact⟨none,fun _=>rfl⟩
 |unOp op t x=>simp only[b9,f7];split<;>first|exact⟨_,fun _=>rfl⟩|exact⟨none,fun _=>rfl⟩
 |convert s d x=>simp only[b9,f7];split<;>first|exact⟨_,fun _=>rfl⟩|exact⟨none,fun _=>rfl⟩
 |makeInterface t x=>simp only[b9,f7];split<;>first|exact⟨_,fun _=>rfl⟩|exact⟨none,fun _=>rfl⟩
 |makeFunc f a b=>
  simp only[b9,f7];split
  ·split<;>first|exact⟨some _,fun _=>rfl⟩|exact⟨none,fun _=>rfl⟩
  ·exact⟨none,fun _=>rfl⟩
 |fieldAddr t x f=>simp only[b9,f7];split<;>first|exact⟨_,fun _=>rfl⟩|exact⟨none,fun _=>rfl⟩
 |field t x f=>simp only[b9,f7];split<;>first|exact⟨_,fun _=>rfl⟩|exact⟨none,fun _=>rfl⟩
 |indexAddr t x i=>
  simp only[b9,f7];split
  ·split<;>first|exact⟨_,fun _=>rfl⟩|exact⟨none,fun _=>rfl⟩
  ·exact⟨none,fun _=>rfl⟩
 |index t x i=>
  simp only[b9,f7];split
  ·split<;>first|exact⟨_,fun _=>rfl⟩|exact⟨none,fun _=>rfl⟩
  ·exact⟨none,fun _=>rfl⟩
 |extract x i=>simp only[b9,f7];split<;>first|exact⟨_,fun _=>rfl⟩|exact⟨none,fun _=>rfl⟩
 |call c=>
  obtain⟨g,args,ats⟩:=c;cases g with
  |value f=>simp[d5]at h|invoke r m=>simp[d5]at h|builtin b=>
   simp only[b9,f7];split
   ·rename_i vs _;generalize ats.toList=j;cases b<;>first
     | (simp[d5]at h;done)
     | (rcases j with _| ⟨t,_| ⟨u,r⟩⟩<;>rcases vs with _| ⟨x,_| ⟨y,l⟩⟩<;>first|exact⟨_,fun _=>rfl⟩|exact⟨none,fun _=>rfl⟩)
   ·exact⟨none,fun _=>rfl⟩
 |_=>simp[d5]at h
def xrd (P:Ax)(tm:Ao)(hp:Hp)(o:Op):Ag:=
 match xop P ⟨fun _ _ _=>none,fun _=>none,fun _ _ _=>none⟩ tm hp o with
 |some (v,hp')=>bif Nat.beq hp'.nx hp.nx then some v else none|none=>none
variable {v:Aw}
def kY {hp hp':Hp}{t:Ay}{x:Aw}{lo hi mx:Ag}(h:i9 P hp t x lo hi mx=some (v,hp')):hp'=hp:=by
 have key:∀ {a:Aw} {q:Hp},some (a,q)=some (v,hp')->q=hp->hp'=hp:=by intro a q f g;simp only[Option.some.injEq,Prod.mk.injEq]at f;rw[<-f.2,g]
 have c:∀ {b:Bool} {x y:Bc (Aw×Hp)},(bif b then x else y)=some (v,hp')->(x=some (v,hp')->hp'=hp)->(y=some (v,hp')->hp'=hp)->hp'=hp:=by
  intro b x y e h1 h2;cases b
  ·exact h2 e
  ·exact h1 e
 unfold i9 at h;split at h
 ·split at h
  ·split at h
   ·cases h
   ·split at h
    ·exact key h rfl
    ·cases h
  ·cases h
 ·split at h
  ·cases h
  ·split at h
   ·refine c h (fun h=>?_) (fun h=>by cases h);split at h
    ·exact key h rfl
    ·cases h
   ·split at h
    ·exact key h rfl
    ·cases h
   ·refine c h (fun h=>?_) (fun h=>?_)
    ·refine c h (fun h=>?_) (fun h=>by cases h);split at h
     ·cases h
     ·refine c h (fun h=>key h rfl) (fun h=>key h rfl)
     ·refine c h (fun h=>key h rfl) (fun h=>?_);refine c h (fun h=>key h rfl) (fun h=>?_)
      ·split at h
       ·exact c h (fun h=>key h rfl) (fun h=>by cases h)
       ·cases h
    ·refine c h (fun h=>?_) (fun h=>by cases h);split at h
     ·cases h
     ·exact c h (fun h=>key h rfl) (fun h=>key h rfl)
   ·cases h
 ·split at h
  ·cases h
  ·split at h
   ·refine c h (fun h=>?_) (fun h=>by cases h);split at h
    ·cases h
    ·exact c h (fun h=>key h rfl) (fun h=>key h rfl)
   ·cases h
 ·cases h
def HM {tm:Ao}{hp:Hp}{o:Op}(hk:d5 o=1)(h:xrd P tm hp o=some v):xop P call tm hp o=some (v,hp):=by
 unfold xrd at h;split at h
 ·rename_i v' hp' hx;cases hb:Nat.beq hp'.nx hp.nx with
  |false=>rw[hb]at h;cases h
  |true=>
   rw[hb,cond_true,Option.some.injEq]at h;subst h;have same:hp'=hp:=by
    cases o with
    |load t a=>
     simp only[b9,f7]at hx;split at hx
     ·exact(i3 hx).2
     ·cases hx
    |slice t x lo hi mx=>
     simp only[b9,f7]at hx;split at hx
     ·split at hx
      ·split at hx
       ·split at hx
        ·exact kY hx
        ·cases hx
       ·cases hx
      ·cases hx
     ·cases hx
    |lookup t x k ok=>
     simp only [b9, f7] at hx;split at hx
     ·split at hx
      ·exact(i3 hx).2
      ·cases hx
     ·cases hx
    |call c=>
     obtain⟨f,args,ats⟩:=c;cases f with
     |builtin b=>
      cases b<;>first
       | (simp[d5]at hk;done)
       | (simp only[b9,f7]at hx
          split at hx
          ·generalize ats.toList=g at hx;rename_i vs _;rcases g with _| ⟨t,_| ⟨u,r⟩⟩<;>rcases vs with _| ⟨x,_| ⟨y,i⟩⟩<;>simp only[l8,reduceCtorEq]at hx;exact(i3 hx).2
          ·cases hx)
     |_=>simp[d5]at hk
    |_=>simp[d5]at hk
   rw[same]at hx;cases o with
   |load t a=>exact hx|slice t x lo hi mx=>exact hx|lookup t x k ok=>exact hx|call c=>
    obtain⟨f,args,ats⟩:=c;cases f with
    |builtin b=>exact hx|_=>simp[d5]at hk
   |_=>simp[d5]at hk
 ·cases h
section
variable {P :Ax}{B:BS}{w0:Be}{σ:Sg}{hp:Hp}{w:Be}
def rest (B:BS)(σ:Sg)(hp:Hp)(w:Be):BS:=⟨fun k=>B.D k\/(k<w.heap.size/\ ∀i b p,hp.m.get i=some b->σ i=some p->p.blk≠k),B.D,fun _ h=>.inl h⟩
def EW (h:HR B w0 σ hp w){k:Nat}(hk:rest B σ hp w k):k<w.heap.size:=by
 rcases hk with hk|hk
 ·have:=h.old k (B.sub k hk);have:=h.size;omega
 ·exact hk.1
def EU (_:HR B w0 σ hp w){i:Nat}{b:Blk}{p:Pl}(a:hp.m.get i=some b)(hp1:σ i=some p)(hn:¬B p.blk):¬rest B σ hp w p.blk:=fun hb=>by
 rcases hb with hb|hb
 ·exact hn (B.sub _ hb)
 ·exact hb.2 i b p a hp1 rfl
def uI (h:HR B w0 σ hp w){k:Nat}(hk:B k):rest B σ hp w k:=by
 by_cases hd:B.D k
 ·exact .inl hd
 ·refine .inr ⟨by have:=h.old k hk;have:=h.size;omega,fun i b p a hp1 he=>?_⟩;obtain⟨p',o,h1,h3,_⟩:=h.live i b a;have:p'=p:=Option.some.inj (h1.symm.trans hp1);subst this;cases hr:aQ b with
  |true=>exact hd (he▸h3.yes hr)|false=>exact h3.no hr (he▸hk)
def HR.max (h:HR B w0 σ hp w):HR (rest B σ hp w) w σ hp w:=by refine⟨rfl,rfl,rfl,Nat.le_refl _,fun k hk=>EW h hk,fun k _=>rfl,h.fresh,?_,h.inj⟩;intro i b a;obtain⟨p,o,h1,h2,h3,h4⟩:=h.live i b a;exact⟨p,o,h1,h2.to id (EU h a h1),h3,h4⟩
def HR.back (h:HR B w0 σ hp w){σ':Sg}{hp':Hp}{w':Be}(k:HR (rest B σ hp w) w σ' hp' w'):HR B w0 σ' hp' w':=by refine⟨k.os.trans h.os,k.tape.trans h.tape,k.output.trans h.output,Nat.le_trans h.size k.size,h.old,fun b hb=>(k.kept b (uI h hb)).trans (h.kept b hb),k.fresh,?_,k.inj⟩;intro i b a;obtain⟨p,o,h1,h3,h4⟩:=k.live i b a;exact⟨p,o,h1,h3.to id (fun hn hb=>hn (uI h hb)),h4⟩
def Ext (B:BS)(σ:Sg)(hp:Hp)(w:Be)(id:Nat)(n:Nw)(b:Nat):Prop:=
 ∃p o,σ id=some p/\p.blk=b/\w.heap[b]? =some o/\BR σ p n.blk o/\ ¬B b/\ ∀i b2 q,hp.m.get i=some b2->σ i=some q->q.blk≠b
def Hp.take (hp:Hp)(id:Nat)(n:Nw):Hp:= {hp with m:=hp.m.set id (some n.blk)}
def HR.take (h:HR B w0 σ hp w){c b:Nat}{n:Nw}(hx:Ext B σ hp w c n b):HR B w0 σ (hp.take c n) w:=by
 obtain⟨p,o,h1,rfl,h4,t,h7,s⟩:=hx;refine⟨h.os,h.tape,h.output,h.size,h.old,h.kept,h.fresh,?_,?_⟩
 ·intro i b2 a;simp only[Hp.take,Mw]at a;by_cases hi:i=c
  ·rw[if_pos hi]at a;simp only[Option.some.injEq]at a;subst a;subst hi;exact⟨p,o,h1,.of h7 n.ok,h4,t⟩
  ·rw[if_neg hi]at a;exact h.live i b2 a
 ·intro i j b1 b2 q r hi hj g hq hr;simp only[Hp.take,Mw]at hi hj;by_cases l:i=c
  ·have f:j≠c:=by omega
   rw[if_neg f]at hj;subst l;have:q=p:=Option.some.inj (hq.symm.trans h1);subst this;exact Ne.symm (s j _ r hj hr)
  ·rw[if_neg l]at hi;by_cases f:j=c
   ·subst f;have:r=p:=Option.some.inj (hr.symm.trans h1);subst this;exact s i _ q hi hq
   ·rw[if_neg f]at hj;exact h.inj i j _ _ q r hi hj g hq hr
def HR.lay (h:HR B w0 σ hp w){a:Nat}(f:σ a=none)(hlt:a<hp.nx)(n:Nw){o:Obj}{p:Pl}(l:p.blk=w.heap.size)(r:BR σ p n.blk o):HR B w0 (σ.ext a p) hp (w.alloc o)/\Ext B (σ.ext a p) hp (w.alloc o) a n w.heap.size:=by
 have g:=Ms (σ:=σ) p f;have ha:=h.allocO a hp.nx f (Nat.le_refl _) hlt n.blk o p l (r.mono g) n.ok;have j:∀i b,hp.m.get i=some b->i≠a:=by intro i b c e;subst e;obtain⟨p,o,h1,_⟩:=h.live _ b c;rw[f]at h1;cases h1
 have hl:=ha.less (m:=hp.m) (fun i b c=>by show(hp.m.set a _).get i=_;rw[Mw,if_neg (j i b c)];exact c);refine⟨by simpa using hl,p,o,Mp _ _ _,l,?_,r.mono g,?_,?_⟩
 ·show(w.heap.push _)[w.heap.size]? =_;simp
 ·intro hb;have h1:=h.old _ hb;have h2:=h.size;omega
 ·intro i b q c hq;rw[Mo _ _ _ (j i b c)]at hq;obtain⟨p',o',h1,_,h4,_⟩:=h.live i b c;have:p'=q:=Option.some.inj (h1.symm.trans hq);subst this;have:=(Array.getElem?_eq_some_iff.1 h4).1;omega
end
end Go.Xe
end PartXm12
