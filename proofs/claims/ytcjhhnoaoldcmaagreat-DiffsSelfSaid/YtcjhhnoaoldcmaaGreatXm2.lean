/- The executor, parts 8, 9, M, C, 10, 11, 12.
  Conditions: none. -/
import Derived.Test.YtcjhhnoaoldcmaaGreatXm1
import Derived.Lib.AppendZerosOnto
import Derived.Lib.Overlaps
import Derived.RangeFuncRecord
import Derived.LoopNIn
import Derived.Scope
import Derived.RangeFuncNested
set_option linter.unusedSimpArgs false
set_option linter.unusedVariables false
noncomputable section PartXm8
namespace Go.Xe
open Go.RowKit
section
variable {P :Program}{B:BS}{w0:World}{σ:Sg}{hp:Hp}{w:World}
def m9 (hp : Hp) (size : Nat) (x : Value) : Option (Nat × List Value) :=
 match x with
 | .slice none n _=>bif Nat.beq n 0 then some (0,[])else none
 | .slice (some ⟨i, o, none⟩) n _ => match hp.m.get i with
  | some b => match rdC b with
   | some (c, k, _) => bif Nat.ble (o + n * size) k then
     match j3 c o (n*size)with
     |some vs=>some (n,vs)
     |none=>none
    else none
   |none=>none
  |none=>none
 | .slice (some ⟨0,0,some 0⟩) 0 _=>some (0,[])
 |_=>none
variable {x x':Value}{vs:List Value}
theorem am5 {size n : Nat}   (h : m9 hp size x = some (n, vs)) (hx : VR σ x x') ( t : HR B w0 σ hp w) :
  ∃us,VRL σ vs us/\us.length=n*size/\(∃b c,x'= .slice b n c/\(b=none->n=0/\us=[])/\ ∀a,b=some a-> ∀j u,us[j]? =some u->w.cell? (a.add j)=some u):=by
 unfold m9 at h;split at h
 ·rename_i k c
  cases hb:Nat.beq k 0 with
  |false=>grind
  |true=>
   rw[hb,bG8]at h;cases h;have hk:=bF6 hb;subst hk;cases hx;exact⟨[],VRL.nil σ,by simp,none,c,rfl,(fun _=>⟨rfl,rfl⟩),(fun a f=>by cases f)⟩
 ·rename_i i o k cap
  split at h
  ·rename_i b g
   split at h
   ·rename_i c m z hr
    cases hb:Nat.ble (o+k*size) m with
    |false=>grind
    |true=>
     rw[hb,bG8]at h;split at h
     ·rename_i y hl
      cases h;cases hx with
      |slice _ _ p _ _ c' hp' hc l=>
      obtain⟨us,h1,h2,h3⟩:=t.cellsR g hr (bF5 hb) hl hp'
      grind
     ·cases h
   ·cases h
  ·cases h
 ·simp only[bF1,bF3]at h
  obtain⟨rfl,rfl⟩:=h;cases hx with
  |vague q c'=>exact⟨[],VRL.nil σ,by simp,_,c',rfl,(fun h=>by cases h),(fun a _ j u s=>by simp at s)⟩
 ·cases h
variable {us:List Value}
theorem ab3 {size n : Nat} {b : Option Addr} {c : Nat}  (   f : us.length = n * size) (hn : b = none → n = 0 ∧ us = [])
  (hs:∀a,b=some a-> ∀j u,us[j]? =some u->w.cell? (a.add j)=some u):
  (Builtin.firstCells size n (.slice b n c)).run P w= .ok us.toArray w:=by
 cases b with
 |none=>obtain⟨rfl,rfl⟩:=hn rfl;exact run_firstCells_none w size 0 0 c
 |some a=>exact run_firstCells_some w size n a n c us f (hs a rfl)
variable {w':World}
theorem G0 (t u ty e  l : TypeId) (i : TypeInfo) (ht : P.underlying t = some (.slice e)) ( p : P.underlying u = some (.slice  l)) (hi : P.info? e = some i)
  (a:Addr) (f g n c:Nat) (b:Option Addr) (us:List Value) (hf:(Builtin.firstCells i.size n (.slice b n c)).run P w= .ok us.toArray w)
  (h:f+n<=g) (j:(storeCells (a.add (f*i.size)) us).run P w= .ok () w'):
  (Builtin.append_ #[t,u] ty #[.slice (some a) f g,.slice b n c]).run P w= .ok (.slice (some a) (f+n) g) w':=by
 simp[Builtin.append_,bH5 ht,bH5 p,sizeOf,typeInfo,hi,Builtin.lenOf,h,hf,j]
theorem M3 (t u ty e  C : TypeId) (i : TypeInfo) (z : Value) (ht : P.underlying t = some (.slice e)) ( E : P.underlying u = some (.slice  C)) (hi : P.info? e = some i) (hz : i.zero = some z)
  (h:Option Addr) (f g n c:Nat) (b:Option Addr) (j us:List Value)
  (s:∀w',w'.heap=w.heap->(Builtin.firstCells i.size f (.slice h f g)).run P w'= .ok j.toArray w')
  (hf:∀w',w'.heap=w.heap->(Builtin.firstCells i.size n (.slice b n c)).run P w'= .ok us.toArray w')
  (F:g<f+n) (D:((f+n:Nat):Int)<=9223372036854775807) (y:Builtin.nextslicecap (f+n) g*i.bytes<=281474976710656):
  (Builtin.append_ #[t,u] ty #[.slice h f g,.slice b n c]).run P w=
   .ok (.slice (some ⟨w.heap.size,0,none⟩) (f+n) (grownCap w (f+n) g e))
    (w.drew.alloc (.cells (j.toArray++us.toArray++Builtin.zeroCells z.cells (grownCap w (f+n) g e-(f+n))) e)):=by
 have hn:¬(f+n<=g):=by omega
 have p:¬(9223372036854775807<((f:Int)+(n:Int))):=by omega
 have l:¬(281474976710656<Builtin.nextslicecap (f+n) g*i.bytes):=by omega
 have A:=hf w.drew rfl;have q:=s w.drew rfl;simp[Builtin.append_,bH5 ht,bH5 E,sizeOf,typeInfo,zeroValue,hi,hz,Builtin.lenOf,hn,p,l,Question.forced,A,q,newRow,grownCap]
 grind
theorem HR.kill (h:HR B w0 σ hp w)(i:Nat):HR B w0 σ {hp with m:=hp.m.set i none} w:=by
 refine⟨h.os,h.tape,h.output,h.size,h.old,h.kept,h.fresh,?_,?_⟩
 ·intro j b hj
  simp only[T.get_set]at hj
  by_cases n:j=i
  ·rw[bH3 n]at hj;cases hj
  ·rw[bH1 n]at hj;exact h.live j b hj
 ·intro a b y z p q f hb s t u
  simp only[T.get_set]at f hb
  by_cases g:a=i
  ·rw[bH3 g]at f;cases f
  ·rw[bH1 g]at f
   by_cases l:b=i
   ·rw[bH3 l]at hb;cases hb
   ·rw[bH1 l]at hb
    exact h.inj a b _ _ p q f hb s t u
theorem HR.grown ( i : HR B w0 σ hp w)  ( h : VRL σ vs us) (   f : Array Value) (c : T Value) (hc : ∀ j, j < vs.length → c.get j = vs[j]?) (e z : Nat) :
  HR B w0 (σ.ext hp.nx ⟨w.heap.size,0,us.length+f.size,z⟩) ⟨hp.m.set hp.nx (some (.cells c vs.length e z)),hp.nx+1⟩ (w.drew.alloc (.cells (us.toArray++f) e)):=by
 have:=i.drew.alloc c vs.length e z (us.toArray++f) (by rw[h.1];simp) (fun j hj=>by
  have g:j<us.length:=by rw[<-h.1];exact hj
  refine⟨vs[j],us[j],by rw[hc j hj];simp[hj],?_,h.2 j _ _ (by simp[hj]) (by simp[g])⟩
  simp[Array.getElem?_append,g])
 simp_all
theorem HR.of_same (h:HR B w0 σ hp w){f:Hp}(hn:f.nx=hp.nx)(hm:∀i,f.m.get i=hp.m.get i):HR B w0 σ f w:=
 ⟨h.os,h.tape,h.output,h.size,h.old,h.kept,fun i hi=>h.fresh i (by rw[<-hn];exact hi),fun i b g=>h.live i b (by rw[<-hm];exact g),
  fun i j b b' p q hi hj=>h.inj i j b b' p q (by rw[<-hm];exact hi) (by rw[<-hm];exact hj)⟩
def v9 (P : Program) (hp : Hp) (t u : TypeId) (s x : Value) : Option (Value × Hp) :=
 match P.underlying t,P.underlying u with
 | some (.slice e), some (.slice _) => match P.info? e with
  |none=>none
  | some ie => match ie.zero with
   |none=>none
   | some z => bif Nat.beq z.cells.toList.length ie.size && Nat.ble ie.bytes 1048576 then
     match m9 hp ie.size x with
     |none=>none
     | some (n, news) => match s with
      | .slice none sLen sCap => bif Nat.beq sLen 0 && Nat.beq sCap 0 && Nat.ble n 67108864 then
        bif Nat.beq n 0 then some (.slice none 0 0,hp)
        else some (.slice (some ⟨hp.nx,0,none⟩) n (c7 n 0),hp.new news e ie.size)
       else none
      | .slice (some ⟨i,o,none⟩) sLen sCap=>match hp.m.get i with
       |some (.cells c k e' z')=>
        bif Nat.ble (sLen+n) 67108864&&news.all Value.oneCell' then
         bif Nat.beq n 0 then
          bif Nat.ble sLen sCap then some (.slice (some ⟨i,o,none⟩) sLen sCap,hp)else none
         else
          bif Nat.ble unk sCap then
           bif Nat.ble 1 (z7 sCap)&&Nat.ble (z7 sCap) (sLen+n)then
            bif Nat.ble (o+sLen*ie.size) k then
             match j3 c o (sLen*ie.size)with
             |none=>none
             |some olds=>some (.slice (some ⟨hp.nx,0,none⟩) (sLen+n) (c7 (sLen+n) 0),hp.new (olds++news) e ie.size)
            else none
           else bif Nat.beq z' ie.size&&Nat.beq e' e&&Nat.ble (o+sLen*ie.size) k then
            bif Nat.ble (sLen+n) (F7 sCap)then
             some (.slice (some ⟨i,o,none⟩) (sLen+n) sCap,aq1 hp i c (Nat.max k (o+(sLen+n)*ie.size)) e' z' (o+sLen*ie.size) news)
            else
            match j3 c o (sLen*ie.size)with
            |none=>none
            |some olds=>
             (bif Nat.beq o 0 then fill c (sLen*ie.size) news else fill (fill .e 0 olds) (sLen*ie.size) news).force fun ct=>
              some (.slice (some ⟨hp.nx,0,none⟩) (sLen+n) (c7 (sLen+n) 0),⟨(hp.m.set i none).set hp.nx (some (.cells ct ((sLen+n)*ie.size) e' z')),hp.nx+1⟩)
           else none
          else bif Nat.ble (sLen+n) sCap then
           bif Nat.ble (o+(sLen+n)*ie.size) k then
            some (.slice (some ⟨i,o,none⟩) (sLen+n) sCap,aq1 hp i c k e' z' (o+sLen*ie.size) news)
           else none
          else
           bif Nat.ble (o+sLen*ie.size) k then
            match j3 c o (sLen*ie.size)with
            |none=>none
            |some olds=>some (.slice (some ⟨hp.nx,0,none⟩) (sLen+n) (c7 (sLen+n) 0),hp.new (olds++news) e ie.size)
           else none
        else none
       |some (.ro c k _ _)=>
        bif Nat.ble (sLen+n) 67108864&&Nat.ble sLen sCap&& !Nat.ble unk sCap then
         bif Nat.beq n 0 then some (.slice (some ⟨i,o,none⟩) sLen sCap,hp)
         else bif Nat.ble (sLen+n) sCap then none
         else bif Nat.ble (o+sLen*ie.size) k then
          match j3 c o (sLen*ie.size)with
          |none=>none
          |some olds=>some (.slice (some ⟨hp.nx,0,none⟩) (sLen+n) (c7 (sLen+n) 0),hp.new (olds++news) e ie.size)
         else none
        else none
       |_=>none
      |_=>none
    else none
 |_,_=>none
theorem A4 {c:T Value}:∀ {vs:List Value} {o:Nat},(∀j,j<vs.length->c.get (o+j)=vs[j]?)->j3 c o vs.length=some vs
 | [],o,_=>rfl
 |v::vs,o,h=>by
  simp only[bJ4,j3];have h0:=h 0 (by simp)
  simp only[bL7,bG7]at h0;rw[h0];have:=A4 (c:=c) (vs:=vs) (o:=o+1) (fun j hj=>by have:=h (j+1) (by simp;omega);rw[show o+(j+1)=o+1+j by omega]at this;simpa using this)
  rw[this]
theorem VR.unkSlice (σ:Sg)(i:Nat)(p:Pl)(f:p.dl=0){l c':Nat}(hl:l<=c')(hb:c'*p.esz<=p.siz):VR (σ.ext i p) (.slice (some ⟨i,0,none⟩) l (c7 l 0)) (.slice (some ⟨p.blk,0,none⟩) l c'):=by
 have:=VR.slice (σ:=σ.ext i p) i 0 p l (c7 l 0) c' (Sg.ext_same _ _ _) (.inr ⟨j4 _ _,by rw[D4 B0];exact hl,.inl (C5 B0),by rw[f];omega⟩) hl
 grind
theorem ac6 (h:w'.heap=w.heap)(a:Addr):w'.cell? a=w.cell? a:=by
 unfold World.cell?;rw[h]
set_option maxHeartbeats 1000000 in
theorem aE2 {t u : TypeId} {s s':Value} {v : Value} {hp' : Hp} (h : v9 P hp t u s x = some (v, hp')) (hs : VR σ s s') (hx : VR σ x x') ( K : HR B w0 σ hp w) (ty : TypeId) :
  MOK hp B w0 σ v hp' ((Builtin.append_ #[t,u] ty #[s',x']).run P w):=by
 unfold v9 at h;split at h
 case h_2=>cases h
 rename_i e e2 ht R;split at h
 ·cases h
 rename_i ie I;split at h
 ·cases h
 rename_i z hz;cases hb:Nat.beq z.cells.toList.length ie.size&&Nat.ble ie.bytes 1048576 with
 |false=>grind
 |true=>
 rw[hb,bG8]at h;simp only[bF2]at hb;have ez:z.cells.size=ie.size:=by simp_all
 have eb:=bF5 hb.2;split at h
 ·cases h
 rename_i n news bm;obtain⟨us,hv,D,b,c,rfl,ay,az⟩:=am5 bm hx K;have Q:news.length=n*ie.size:=by rw[hv.1];exact D
 have hf:(Builtin.firstCells ie.size n (.slice b n c)).run P w= .ok us.toArray w:=ab3 D ay az;have ao:∀w':World,w'.heap=w.heap->(Builtin.firstCells ie.size n (.slice b n c)).run P w'= .ok us.toArray w':=fun w' hh=>
  ab3 D ay (fun a ha j u R=>by rw[ac6 hh];exact az a ha j u R)
 split at h
 ·rename_i f g
  cases h0:Nat.beq f 0&&Nat.beq g 0&&Nat.ble n 67108864 with
  |false=>grind
  |true=>
  rw[h0,bG8]at h;simp only[bF2]at h0;have e1:=bF6 h0.1.1;have bk:=bF6 h0.1.2;have hn:=bF5 h0.2;subst e1;subst bk;cases hs;cases y:Nat.beq n 0 with
  |true=>
   rw[y,bG8]at h;cases h;have:=bF6 y;subst this;have Y:us=[]:=bF7 (by simpa using D)
   subst Y;refine⟨σ,.slice none 0 0,w,?_,Sg.gr_refl _ σ,.nils 0 0,K⟩;simp[Builtin.append_,bH5 ht,bH5 R,sizeOf,typeInfo,I,Builtin.lenOf,hf]
  |false=>
   rw[y,bG9]at h;cases h;have ah:n≠0:=fun e=>by rw[e]at y;cases y
   have hr:=M3 (P:=P) (w:=w) t u ty e e2 ie z ht R I hz none 0 0 n c b [] us (fun w' _=>run_firstCells_none w' ie.size 0 0 0) ao (by omega) (by omega)
    (growslice_fits (by omega) (by have:=Nat.mul_le_mul (show 0+n<=67108864 by omega) eb;omega))
   simp only[bI3]at hr;have hge:=grownCap_ge w n 0 e;have M:=K.grown hv (Builtin.zeroCells z.cells (grownCap w n 0 e-n)) (fill .e 0 news) (fun j hj=>y6 news j hj) e ie.size
   refine⟨_,_,_,hr,K.le_new _,VR.unkSlice σ hp.nx ⟨w.heap.size,0,us.length+(Builtin.zeroCells z.cells (grownCap w n 0 e-n)).size,ie.size⟩ rfl hge ?_,?_⟩
   ·show grownCap w n 0 e*ie.size<=us.length+_
    rw[size_zeroCells,D,ez,<-bI7]
    grind
   ·simpa [Hp.new]using M
 ·rename_i i o    f    g
  split at h
  case h_3=>cases h
  case h_2=>
   rename_i k0 k e' z' hg;cases h0:Nat.ble (f+n) 67108864&&Nat.ble f g&& !Nat.ble unk g with
   |false=>grind
   |true=>
   rw[h0,bG8]at h;simp only[bF2,bJ7]at h0;obtain⟨⟨g1,g2⟩,g3⟩:=h0;have hn:=bF5 g1;have g3:¬unk<=g:=fun h=>by rw[bF8 h]at g3;cases g3
   cases hs with
   |slice _ _ p _ _ c' F U ap=>
   obtain⟨rfl,_⟩:g=c'/\g<unk:=by
    grind
   cases y:Nat.beq n 0 with
   |true=>
    rw[y,bG8]at h;have:=bF6 y;subst this;have Y:us=[]:=bF7 (by simpa using D)
    subst Y;cases h;refine⟨σ,_,w,G0 t u ty e e2 ie ht R I _ f g 0 c b [] hf (by omega) (by simp[storeCells]),Sg.gr_refl _ σ,.slice i o p f g g F U ap,K⟩
   |false=>
   rw[y,bG9]at h;have ah:n≠0:=fun e=>by rw[e]at y;cases y
   cases au:Nat.ble (f+n) g with
   |true=>grind
   |false=>
   rw[au,bG9]at h;have hlt:g<f+n:=Nat.lt_of_not_le fun h=>by rw[bF8 h]at au;cases au
   cases C:Nat.ble (o+f*ie.size) k with
   |false=>grind
   |true=>
   rw[C,bG8]at h;have C:=bF5 C;split at h
   ·cases h
   rename_i q J;simp only[bF1,bF3]at h;obtain⟨rfl,rfl⟩:=h;obtain⟨A,aw,E,ai⟩:=K.cellsR hg rfl C J F;have al:∀w':World,w'.heap=w.heap->(Builtin.firstCells ie.size f (.slice (some ⟨p.blk,p.dl+o,none⟩) f g)).run P w'= .ok A.toArray w':=fun w' hh=>
    run_firstCells_some w' ie.size f _ f g A E (fun j u R=>by rw[ac6 hh];exact ai j u R)
   have hr:=M3 (P:=P) (w:=w) t u ty e e2 ie z ht R I hz (some ⟨p.blk,p.dl+o,none⟩) f g n c b A us al ao hlt (by omega)
    (growslice_fits hlt (by have:=Nat.mul_le_mul hn eb;omega))
   have hge:=grownCap_ge w (f+n) g e;have H:=aw.append hv;have aj:(q++news).length=(f+n)*ie.size:=by rw[H.1,bH8,E,D,bI7]
   have M:=K.grown H (Builtin.zeroCells z.cells (grownCap w (f+n) g e-(f+n))) (fill .e 0 (q++news)) (fun j hj=>y6 _ j hj) e ie.size
   have av:(A++us).length=(f+n)*ie.size:=by rw[<-H.1];exact aj
   rw[show(A++us).toArray=A.toArray++us.toArray by simp]at M
   refine⟨_,_,_,hr,K.le_new _,VR.unkSlice σ hp.nx ⟨w.heap.size,0,(A++us).length+(Builtin.zeroCells z.cells (grownCap w (f+n) g e-(f+n))).size,ie.size⟩ rfl hge ?_,by simpa [Hp.new]using M⟩
   show grownCap w (f+n) g e*ie.size<=(A++us).length+_;rw[size_zeroCells,av,ez,<-bI7]
   grind
  rename_i k0 k e' z' hg;cases h0:Nat.ble (f+n) 67108864&&news.all Value.oneCell' with
  |false=>rw[h0]at h;cases h
  |true=>
  rw[h0,bG8]at h;simp only[bF2]at h0;have hn:=bF5 h0.1;have W:=hv.all_oneCell h0.2;cases hs with
  |slice _ _ p _ _ c' F U ap=>
  obtain⟨k1,k2⟩:=K.place hg F;cases y:Nat.beq n 0 with
  |true=>
   rw[y,bG8]at h;have:=bF6 y;subst this;have Y:us=[]:=bF7 (by simpa using D)
   subst Y;cases Z:Nat.ble f g with
   |false=>simp_all
   |true=>
    rw[Z,bG8]at h;simp only[bF1,bF3]at h;obtain⟨rfl,rfl⟩:=h;refine⟨σ,_,w,G0 t u ty e e2 ie ht R I _ f c' 0 c b [] hf (by omega) (by simp[storeCells]),Sg.gr_refl _ σ,.slice i o p f g c' F U ap,K⟩
  |false=>
  rw[y,bG9]at h;have ah:n≠0:=fun e=>by rw[e]at y;cases y
  have   ad : ∀    q : List Value, j3 k0 o (   f * ie.size) = some    q → o +    f * ie.size ≤ k → c' <    f + n → ∀ ( ab : Hp), HR B w0 σ  ab w → ∀ ct : T Value, (∀ j, j < (   q ++ news).length → ct.get j = (   q ++ news)[j]?) →
    ∀ex zx,ex=e->zx=ie.size->ab.nx=hp.nx->
    MOK hp B w0 σ (.slice (some ⟨hp.nx,0,none⟩) (f+n) (c7 (f+n) 0)) ⟨ab.m.set hp.nx (some (.cells ct ((f+n)*ie.size) ex zx)),hp.nx+1⟩
     ((Builtin.append_ #[t,u] ty #[.slice (some ⟨p.blk,p.dl+o,none⟩) f c',.slice b n c]).run P w):=by
   rintro q J C hlt ab bp ct ak ex zx rfl rfl bn
   obtain⟨A,aw,E,ai⟩:=K.cells hg C J F;have al:∀w':World,w'.heap=w.heap->(Builtin.firstCells ie.size f (.slice (some ⟨p.blk,p.dl+o,none⟩) f c')).run P w'= .ok A.toArray w':=fun w' hh=>
    run_firstCells_some w' ie.size f _ f c' A E (fun j u R=>by rw[ac6 hh];exact ai j u R)
   have hr:=M3 (P:=P) (w:=w) t u ty ex e2 ie z ht R I hz (some ⟨p.blk,p.dl+o,none⟩) f c' n c b A us al ao hlt (by omega)
    (growslice_fits hlt (by have:=Nat.mul_le_mul hn eb;omega))
   have hge:=grownCap_ge w (f+n) c' ex;have H:=aw.append hv;have aj:(q++news).length=(f+n)*ie.size:=by rw[H.1,bH8,E,D,bI7]
   have M:=bp.grown H (Builtin.zeroCells z.cells (grownCap w (f+n) c' ex-(f+n))) ct ak ex ie.size;rw[aj,bn]at M;have av:(A++us).length=(f+n)*ie.size:=by grind
   rw[show(A++us).toArray=A.toArray++us.toArray by simp]at M
   refine⟨_,_,_,hr,K.le_new _,VR.unkSlice σ hp.nx ⟨w.heap.size,0,(A++us).length+(Builtin.zeroCells z.cells (grownCap w (f+n) c' ex-(f+n))).size,ie.size⟩ rfl hge ?_,M⟩;show grownCap w (f+n) c' ex*ie.size<=(A++us).length+_;rw[size_zeroCells,av,ez,<-bI7];exact bG4 _ (by omega)
  have     S : ∀ {v : Value} {hp' : Hp}, c' <    f + n → (bif Nat.ble (o +    f * ie.size) k then
    match j3 k0 o (f*ie.size)with
    |none=>none
    |some q=>some (Value.slice (some ⟨hp.nx,0,none⟩) (f+n) (c7 (f+n) 0),hp.new (q++news) e ie.size)
   else none)=some (v,hp')->MOK hp B w0 σ v hp' ((Builtin.append_ #[t,u] ty #[.slice (some ⟨p.blk,p.dl+o,none⟩) f c',.slice b n c]).run P w):=by
   intro v hp' hlt h;cases C:Nat.ble (o+f*ie.size) k with
   |false=>rw[C]at h;cases h
   |true=>
    rw[C,bG8]at h;have C:=bF5 C;split at h
    ·cases h
    rename_i q J;simp only[bF1,bF3]at h;obtain⟨rfl,rfl⟩:=h;have aa:=(f9 J).1;have:=ad q J C hlt hp K (fill .e 0 (q++news)) (fun j hj=>y6 _ j hj) e ie.size rfl rfl rfl
    rw[show(f+n)*ie.size=(q++news).length by rw[bH8,aa,Q,bI7]]at this
    exact this
  cases O:Nat.ble unk g with
  | true =>
   rw[O,bG8]at h;have O:=bF5 O;obtain⟨bb,ba,ae⟩:F7 g<=c'/\(z7 g=0\/c'<z7 g)/\p.dl+o+c'*p.esz<=p.siz:=by
    rcases U with⟨_,h⟩| ⟨_,h2,h3,h4⟩
    ·omega
    ·exact⟨h2,h3,h4⟩
   cases G:Nat.ble 1 (z7 g)&&Nat.ble (z7 g) (f+n)with
   |true=>
    rw[G,bG8]at h;simp only[bF2]at G;have g1:=bF5 G.1;have g2:=bF5 G.2;exact S (by omega) h
   |false=>
   rw[G,bG9]at h;cases h1:Nat.beq z' ie.size&&Nat.beq e' e&&Nat.ble (o+f*ie.size) k with
   |false=>rw[h1]at h;cases h
   |true=>
   rw[h1,bG8]at h;simp only[bF2]at h1;have ax:=bF6 h1.1.1;have he:=bF6 h1.1.2;have C:=bF5 h1.2;cases ac:Nat.ble (f+n) (F7 g)with
   |true=>
    rw[ac,bG8,E6]at h;have ac:=bF5 ac;have l:f+n<=c':=by omega
    simp only[bF1,bF3]at h;obtain⟨rfl,rfl⟩:=h;have be:p.dl+(o+f*ie.size+n*ie.size)<=p.siz:=by
     have:(f+n)*ie.size<=c'*p.esz:=by rw[k2,ax];exact bG4 _ l
     rw[bI7]at this;omega
    obtain⟨w',X,hh,_⟩:=K.store (o:=o+f*ie.size) hg F hv W C (by rw[Q];omega) P
    have L:(⟨p.blk,p.dl+o,none⟩:Addr).add (f*ie.size)=⟨p.blk,p.dl+(o+f*ie.size),none⟩:=by rw[bO4,bL1]
    have N:=G0 (P:=P) t u ty e e2 ie ht R I ⟨p.blk,p.dl+o,none⟩ f c' n c b us hf l (w':=w') (by rw[L];exact X)
    refine⟨σ,_,w',N,Sg.gr_refl _ σ,.slice i o p _ _ _ F (.inr ⟨O,bb,ba,ae⟩) l,?_⟩;rw[Q,show max k (o+f*ie.size+n*ie.size)=Nat.max k (o+(f+n)*ie.size) by rw[bI7,bL1]]at hh
    exact hh
   |false=>
   rw[ac,bG9]at h;split at h
   ·cases h
   rename_i q J;rw[T.force_eq]at h;generalize bi:(bif Nat.beq o 0 then fill k0 (f*ie.size) news else fill (fill .e 0 q) (f*ie.size) news)=ct at h
   simp only[bF1,bF3]at h;obtain⟨rfl,rfl⟩:=h;obtain⟨aa,aq⟩:=f9 J;have ak:∀j,j<(q++news).length->ct.get j=(q++news)[j]? :=by
    intro j hj;rw[<-bi];have bq:j<f*ie.size+news.length:=by simpa [aa]using hj
    by_cases bg:j<f*ie.size
    ·rw[bG0 (by omega),aq j bg]
     cases ho:Nat.beq o 0 with
     |true=>
      have:=bF6 ho;subst this;rw[bG8,i4,bH1 (by omega)];simp
     |false=>
      rw[bG9,i4,bH1 (by omega),y6 q j (by omega),aq j bg]
    ·rw[bF9 (by omega),aa]
     cases ho:Nat.beq o 0 with
     |true=>rw[bG8,i4,bH3 (by omega)]
     |false=>rw[bG9,i4,bH3 (by omega)]
   by_cases l:f+n<=c'
   ·
    have be:p.dl+o+(f*ie.size+n*ie.size)<=p.siz:=by
     have:(f+n)*ie.size<=c'*p.esz:=by rw[k2,ax];exact bG4 _ l
     rw[bI7]at this;omega
    have hm:=K.move hg F (o:=o) (k:=f*ie.size) C (bif Nat.beq o 0 then k0 else fill .e 0 q) (fun j hj=>by
     cases ho:Nat.beq o 0 with
     |true=>have:=bF6 ho;subst this;simp
     |false=>rw[bG9,y6 q j (by omega),aq j hj])
    have Z:=K.le_new ⟨p.blk,p.dl+o,p.siz,p.esz⟩;obtain⟨w',X,hh,_⟩:=hm.store (i:=hp.nx) (o:=f*ie.size) (by rw[T.get_set,bH3 rfl]) (Sg.ext_same _ _ _) (hv.mono Z.le) W (bH4 _) (by show p.dl+o+_+_<=p.siz;rw[Q];omega) P
    have L:(⟨p.blk,p.dl+o,none⟩:Addr).add (f*ie.size)=⟨p.blk,p.dl+o+f*ie.size,none⟩:=bO4 _ _ _;have N:=G0 (P:=P) t u ty e e2 ie ht R I ⟨p.blk,p.dl+o,none⟩ f c' n c b us hf l (w':=w') (by rw[L];exact X)
    refine⟨_,_,w',N,Z,?_,?_⟩
    ·have:=VR.slice (σ:=σ.ext hp.nx ⟨p.blk,p.dl+o,p.siz,p.esz⟩) hp.nx 0 ⟨p.blk,p.dl+o,p.siz,p.esz⟩ (f+n) (c7 (f+n) 0) c' (Sg.ext_same _ _ _) (.inr ⟨j4 _ _,by rw[D4 B0];exact l,.inl (C5 B0),by simpa using ae⟩) l
     simpa using this
    ·have  bl : fill (bif Nat.beq o 0 then k0 else fill .e 0    q) (   f * ie.size) news = ct := by
      rw[<-bi];cases Nat.beq o 0<;>rfl
     rw[bl,Q,show max (f*ie.size) (f*ie.size+n*ie.size)=(f+n)*ie.size by rw[bI7];omega]at hh
     refine hh.of_same rfl (fun j=>?_)
     simp only[T.get_set];split<;>rfl
   ·subst ax
    subst he;exact ad q J C (by omega) {hp with m:=hp.m.set i none} (K.kill i) _ ak _ _ rfl rfl rfl
  |false=>
   rw[O,bG9]at h;have bc:¬unk<=g:=fun h=>by rw[bF8 h]at O;cases O
   obtain⟨rfl,bh⟩:g=c'/\g<unk:=by
    rcases U with h| ⟨h,_⟩
    ·exact h
    ·exact absurd h bc
   cases l:Nat.ble (f+n) g with
   |true=>
    rw[l,bG8]at h;have l:=bF5 l;cases V:Nat.ble (o+(f+n)*ie.size) k with
    |false=>rw[V]at h;cases h
    |true=>
     rw[V,bG8,E6]at h;have V:=bF5 V;simp only[bF1,bF3]at h;obtain⟨rfl,rfl⟩:=h;rw[bI7]at V;obtain⟨w',X,hh,_⟩:=K.store (o:=o+f*ie.size) hg F hv W (by omega) (by rw[Q];omega) P
     have L:(⟨p.blk,p.dl+o,none⟩:Addr).add (f*ie.size)=⟨p.blk,p.dl+(o+f*ie.size),none⟩:=by rw[bO4,bL1]
     have N:=G0 (P:=P) t u ty e e2 ie ht R I ⟨p.blk,p.dl+o,none⟩ f g n c b us hf l (w':=w') (by rw[L];exact X)
     refine⟨σ,_,w',N,Sg.gr_refl _ σ,.slice i o p _ _ _ F (.inl ⟨rfl,bh⟩) l,?_⟩
     ·rw[Q,show max k (o+f*ie.size+n*ie.size)=k by omega]at hh
      exact hh
   |false=>
    rw[l,bG9]at h;have bj:¬f+n<=g:=fun h=>by rw[bF8 h]at l;cases l
    exact S (by omega) h
 ·cases h
end
end Go.Xe
end PartXm8
noncomputable section PartXm9
namespace Go.Xe
open Go.RowKit
section
variable {P :Program}{B:BS}{w0:World}{σ:Sg}{hp:Hp}{w:World}
def aI5 (P : Program) (hp : Hp) (t : TypeId) (d x : Value) : Option (Value × Hp) :=
 match P.underlying t with
 | some (.slice e) => match P.info? e with
  |none=>none
  | some ie => match d with
   | .slice none dl _ => bif Nat.beq dl 0 then
     match x with
     | .slice (some ⟨_,_,none⟩) _ _| .slice none _ _=>some (.int .i64 0,hp)
     |_=>none
    else none
   | .slice (some ⟨0, 0, some 0⟩) 0 _ => match x with
     | .slice (some ⟨_,_,none⟩) _ _=>some (.int .i64 0,hp)
     |_=>none
   | .slice (some ⟨i, o, none⟩) dl dc => match hp.m.get i with
    | some (.cells c k e' z') => match x with
     | .slice none n _=>bif Nat.beq n 0 then some (.int .i64 0,hp)else none
     | .slice (some ⟨j, q, none⟩) n cx => match m9 hp ie.size (.slice (some ⟨j, q, none⟩) (Nat.min n dl) cx) with
      | some (m, vs) => bif (Nat.ble (o + m * ie.size) k || (Nat.ble unk dc && Nat.beq z' ie.size && Nat.ble o k)) && Nat.ble m dl && vs.all Value.oneCell' then
        some (.int .i64 m,aq1 hp i c (Nat.max k (o+m*ie.size)) e' z' o vs)
       else none
      |none=>none
     | .slice (some ⟨0,0,some 0⟩) 0 _=>some (.int .i64 0,hp)
     |_=>none
    |_=>none
   |_=>none
 |_=>none
variable {v x x':Value}
theorem aV5 {t u : TypeId} {d  M:Value}  {hp' : Hp} (h : aI5 P hp t d x = some (v, hp')) ( H : VR σ d  M) (hx : VR σ x x') ( l : HR B w0 σ hp w) (ty : TypeId) :
  MOK hp B w0 σ v hp' ((Builtin.copy_ #[t,u] ty #[M,x']).run P w):=by
 unfold aI5 at h;split at h
 case h_2=>cases h
 rename_i e ht;split at h
 ·cases h
 rename_i ie f;split at h
 ·rename_i dl dc
  cases hb:Nat.beq dl 0 with
  |false=>grind
  |true=>
  rw[hb,bG8]at h;have hb:=bF6 hb;subst hb;cases H;split at h
  ·rename_i j q n C
   cases h;cases hx with
   |slice _ _ p _ _ c' hp' hc hl=>
   refine⟨σ,_,w,?_,Sg.gr_refl _ σ,.int _ _,l⟩;simp[Builtin.copy_,bH5 ht,Builtin.lenOf,sizeOf,typeInfo,f,Builtin.firstCells,loadCells,loadCellsFrom,goInt]
  ·rename_i n C
   cases h;cases hx;refine⟨σ,_,w,?_,Sg.gr_refl _ σ,.int _ _,l⟩;simp[Builtin.copy_,bH5 ht,Builtin.lenOf,sizeOf,typeInfo,f,Builtin.firstCells,goInt]
  ·cases h
 ·rename_i dc
  split at h
  ·simp only[bF1,bF3]at h
   obtain⟨rfl,rfl⟩:=h;cases H;cases hx with
   |slice _ _ p _ _ c' hp' hc hl=>
   refine⟨σ,_,w,?_,Sg.gr_refl _ σ,.int _ _,l⟩;simp[Builtin.copy_,bH5 ht,Builtin.lenOf,sizeOf,typeInfo,f,Builtin.firstCells,loadCells,loadCellsFrom,storeCells,goInt]
  ·cases h
 ·rename_i i o dl dc
  split at h
  case h_2=>cases h
  rename_i c k e' X R;cases H with
  |slice _ _ p _ _ c' A hc hl=>
  obtain⟨k1,k2⟩:=l.place R A;split at h
  ·rename_i n C
   cases hb:Nat.beq n 0 with
   |false=>grind
   |true=>
    rw[hb,bG8]at h;have hb:=bF6 hb;subst hb;cases h;cases hx;refine⟨σ,_,w,?_,Sg.gr_refl _ σ,.int _ _,l⟩;simp[Builtin.copy_,bH5 ht,Builtin.lenOf,sizeOf,typeInfo,f,Builtin.firstCells,goInt,storeCells]
  ·rename_i j q n C
   cases hx with
   |slice _ _ p2 _ _ D I G U=>
   split at h
   ·rename_i m vs hf
    cases hb:(Nat.ble (o+m*ie.size) k|| (Nat.ble unk dc&&Nat.beq X ie.size&&Nat.ble o k))&&Nat.ble m dl&&vs.all Value.oneCell' with
    |false=>grind
    |true=>
     rw[hb,bG8,E6]at h;simp only[bF2,bM8]at hb;have V:=bF5 hb.1.2;have y:o<=k/\p.dl+(o+m*ie.size)<=p.siz:=by
      rcases hb.1.1 with T| ⟨⟨N,E⟩,O⟩
      ·simp_all;omega
      ·have N:=bF5 N
       have E:=bF6 E;have O:=bF5 O;have Q:p.dl+o+c'*p.esz<=p.siz:=by grind
       have:m*ie.size<=c'*p.esz:=by rw[k2,E];exact bG4 _ (by omega)
       omega
     cases h;have W:Nat.min n dl<=n:=Nat.min_le_left _ _;obtain⟨us,K,g,b,Y,s,S,F⟩:=am5 hf (.slice j q p2 (Nat.min n dl) C D I G (by omega)) l
     simp only[Value.slice.injEq]at s;obtain⟨rfl,rfl,rfl⟩:=s;have z:=K.all_oneCell hb.2;have L:=K.1;obtain⟨w',J,hh,_⟩:=l.store (o:=o) R A K z y.1 (by rw[L,g];omega) P
     refine⟨σ,_,w',?_,Sg.gr_refl _ σ,.int _ _,?_⟩
     ·have hl:=run_loadCells_list (P:=P) w _ us (F _ rfl)
      rw[g]at hl;simp only[Builtin.copy_,List.getElem?_toArray,bG7,bG2,bI0,bH5 ht,bH6,Builtin.lenOf,bI5,sizeOf,typeInfo,bP3,f,Builtin.firstCells,hl,J,goInt]
     ·grind
   ·cases h
  ·simp only[bF1,bF3]at h
   obtain⟨rfl,rfl⟩:=h;cases hx with
   |vague q c'=>
    refine⟨σ,_,w,?_,Sg.gr_refl _ σ,.int _ _,l⟩;simp[Builtin.copy_,bH5 ht,Builtin.lenOf,sizeOf,typeInfo,f,Builtin.firstCells,loadCells,loadCellsFrom,storeCells,goInt]
  ·cases h
 ·cases h
def C4 (v:Value)(y:Nat):Option Nat:=
 match v with
 | .int _ n=>bif decide (0<=n)&&decide (n<=y)then some n.toNat else none
 |_=>none
theorem E4 {v':Value} {y n : Nat} (h : C4 v y = some n) ( i : VR σ v v') { g : Nat} (hy : y ≤  g) (   f : BoundsCode) :
  n<=y/\ ∀w,(Instr.sliceBound v' g f).run P w= .ok n w:=by
 unfold C4 at h;split at h
 ·rename_i k m
  cases i;cases hb:decide (0<=m)&&decide (m<=y)with
  |false=>grind
  |true=>
   rw[hb,bG8]at h;simp only[bF2,bH2]at hb;simp only[bF1]at h;subst h;exact⟨by omega,fun w=>run_sliceBound w k m g f hb.1 (by omega)⟩
 ·cases h
def n9 (len cb:Nat)(lo hi mx:Option Value):Option (Nat×Nat×Option Nat):=
 match(match mx with|some v=>(C4 v cb).map some|none=>some none)with
 |none=>none
 |some m=>match(match hi with|some v=>C4 v (m.getD cb)|none=>(match mx with|some _=>none|none=>some len))with
  |none=>none
  |some h=>match(match lo with|some v=>C4 v h|none=>some 0)with
   |none=>none
   |some l=>some (l,h,m)
def OVR (σ:Sg):Option Value->Option Value->Prop
 |none,none=>True
 |some v,some u=>VR σ v u
 |_,_=>False
variable {hi hi' lo lo' mx mx':Option Value}
theorem A7 {len  g cap : Nat}  {l h : Nat} {m : Option Nat} (he : n9 len  g lo hi mx = some (l, h, m))
  (h1:OVR σ lo lo') (h2:OVR σ hi hi') (h3:OVR σ mx mx') (hc:g<=cap) (s:len<=g) (isS:Bool):
  l<=h/\h<=m.getD g/\m.getD g<=g/\ ∀w,(Instr.sliceBounds isS len cap lo' hi' mx').run P w= .ok (l,h,m.getD cap) w:=by
 unfold n9 at he;cases mx with
 |none=>
  cases mx' with
  |some _=>exact h3.elim
  |none=>
  simp only[Option.getD_none]at he;cases hi with
  |none=>
   cases hi' with
   |some _=>exact h2.elim
   |none=>
   simp only at he;cases lo with
   |none=>
    cases lo' with
    |some _=>exact h1.elim
    |none=>
    cases he;exact⟨by omega,s,bH4 _,fun w=>by simp[Instr.sliceBounds]⟩
   |some lv=>
    cases lo' with
    |none=>exact h1.elim
    |some t=>
    simp only at he;cases hb:C4 lv len with
    |none=>grind
    |some C=>
     simp only[hb,bF1,bF3]at he;obtain⟨rfl,rfl,rfl⟩:=he;obtain⟨i,j⟩:=E4 (P:=P) hb h1 (bH4 _) .sliceB;exact⟨i,s,bH4 _,fun w=>by simp[Instr.sliceBounds,j]⟩
  |some u=>
   cases hi' with
   |none=>exact h2.elim
   |some y=>
   simp only at he;cases f:C4 u g with
   |none=>grind
   |some h0=>
    simp only[f]at he;obtain⟨n,p⟩:=E4 (P:=P) f h2 hc (if isS then .sliceAcap else .sliceAlen)
    cases lo with
    |none=>
     cases lo' with
     |some _=>exact h1.elim
     |none=>
     cases he;exact⟨by omega,n,bH4 _,fun w=>by simp[Instr.sliceBounds,p]⟩
    |some lv=>
     cases lo' with
     |none=>exact h1.elim
     |some t=>
     simp only at he;cases hb:C4 lv h0 with
     |none=>grind
     |some C=>
      simp only[hb,bF1,bF3]at he;obtain⟨rfl,rfl,rfl⟩:=he;obtain⟨i,j⟩:=E4 (P:=P) hb h1 (bH4 _) .sliceB;exact⟨i,n,bH4 _,fun w=>by simp[Instr.sliceBounds,p,j]⟩
 |some mv=>
  cases mx' with
  |none=>exact h3.elim
  |some E=>
  simp only at he;cases q:C4 mv g with
  |none=>grind
  |some D=>
   simp only[q,bJ6,bJ3]at he;obtain⟨z,A⟩:=E4 (P:=P) q h3 hc (if isS then .slice3Acap else .slice3Alen)
   cases hi with
   |none=>simp at he
   |some u=>
    cases hi' with
    |none=>exact h2.elim
    |some y=>
    simp only at he;cases f:C4 u D with
    |none=>grind
    |some h0=>
     simp only[f]at he;obtain⟨n,p⟩:=E4 (P:=P) f h2 (bH4 _) .slice3B;cases lo with
     |none=>
      cases lo' with
      |some _=>exact h1.elim
      |none=>
      cases he;exact⟨by omega,n,z,fun w=>by simp[Instr.sliceBounds,p,A]⟩
     |some lv=>
      cases lo' with
      |none=>exact h1.elim
      |some t=>
      simp only at he;cases hb:C4 lv h0 with
      |none=>grind
      |some C=>
       simp only[hb,bF1,bF3]at he;obtain⟨rfl,rfl,rfl⟩:=he;obtain⟨i,j⟩:=E4 (P:=P) hb h1 (bH4 _) .slice3C;exact⟨i,n,z,fun w=>by simp[Instr.sliceBounds,p,A,j]⟩
def j6 (P : Program) (hp : Hp) (t : TypeId) (x : Value) (lo hi mx : Option Value) : Option (Value × Hp) :=
 match P.underlying t with
 |some .string=>match x with
  | .string s=>match mx with
   |some _=>none
   |none=>match n9 s.data.toList.length s.data.toList.length lo hi none with
    |some (l,h,_)=>some (.string ⟨((s.data.toList.take h).drop l).toArray⟩,hp)
    |none=>none
  |_=>none
 | some (.slice e) => match P.info? e with
  |none=>none
  | some ie => match x with
   | .slice none len cap => bif Nat.beq len 0 && Nat.beq cap 0 then
     match n9 0 0 lo hi mx with
     |some _=>some (.slice none 0 0,hp)
     |none=>none
    else none
   | .slice (some ⟨0,0,some 0⟩) 0 _=>match n9 0 0 lo hi mx with
    |some (_,_,none)=>some (.slice (some ⟨0,0,some 0⟩) 0 unk,hp)
    |_=>none
   | .slice (some ⟨i, o, none⟩) len cap =>
    bif Nat.ble unk cap then
     bif Nat.ble (Nat.max (F7 cap) len) 67108864 then
     match n9 len (Nat.max (F7 cap) len) lo hi mx with
     |none=>none
     | some (l, h, some m) => bif Nat.beq m l then some (.slice (some ⟨i, o, none⟩) (h - l) (m - l), hp)
       else some (.slice (some ⟨i,o+l*ie.size,none⟩) (h-l) (m-l),hp)
     | some (l, h, none) => bif Nat.beq l 0 then some (.slice (some ⟨i, o, none⟩) h (c7 (Nat.max (F7 cap) len) (z7 cap)), hp) else
       bif Nat.beq l (Nat.max (F7 cap) len)then some (.slice (some ⟨0,0,some 0⟩) 0 unk,hp)
       else match hp.m.get i with
        |some (.cells _ _ _ z')=>bif Nat.beq z' ie.size then some (.slice (some ⟨i,o+l*ie.size,none⟩) (h-l) (c7 (Nat.max (F7 cap) len-l) (z7 cap-l)),hp)else none
        |_=>none
     else none
    else bif Nat.ble len cap then
     match n9 len cap lo hi mx with
     |none=>none
     | some (l, h, m) => bif Nat.beq (m.getD cap) l then some (.slice (some ⟨i, o, none⟩) (h - l) (m.getD cap - l), hp)
       else some (.slice (some ⟨i,o+l*ie.size,none⟩) (h-l) (m.getD cap-l),hp)
    else none
   |_=>none
 | some (.array n e) => match P.info? e with
  |none=>none
  | some ie => match x with
   | .pointer (some ⟨i, o, none⟩) => bif Nat.ble n 16777216 then
     match n9 n n lo hi mx with
     |none=>none
     | some (l, h, m) => bif Nat.beq (m.getD n) l then some (.slice (some ⟨i, o, none⟩) (h - l) (m.getD n - l), hp)
       else some (.slice (some ⟨i,o+l*ie.size,none⟩) (h-l) (m.getD n-l),hp)
    else none
   |_=>none
 |_=>none
theorem ai9 (s:ByteArray)(l h:Nat):s.extract l h=⟨((s.data.toList.take h).drop l).toArray⟩:=by
 apply ByteArray.ext
 rw[ByteArray.data_extract]
 grind
theorem aN5 {t : TypeId}    {hp' : Hp} (h : j6 P hp t x lo hi mx = some (v, hp'))
  (hx:VR σ x x') (h1:OVR σ lo lo') (h2:OVR σ hi hi') (h3:OVR σ mx mx') (E:HR B w0 σ hp w):
  MOK hp B w0 σ v hp' ((Instr.sliceAt t x' lo' hi' mx').run P w):=by
 unfold j6 at h;split at h
 ·rename_i N
  split at h
  ·rename_i s
   cases hx;split at h
   ·cases h
   ·cases mx' with
    |some _=>exact h3.elim
    |none=>
    split at h
    ·rename_i l hh m hb
     cases h;obtain⟨_,_,_,u⟩:=A7 (P:=P) (cap:=s.size) hb h1 h2 (show OVR σ none none from trivial) (by simp) (bH4 _) false
     rw[show s.data.toList.length=s.size by simp]at u
     refine⟨σ,_,w,?_,Sg.gr_refl _ σ,.string _,E⟩;simp only[Instr.sliceAt,bI0,bH5 N,bH6,Instr.slice,Option.isSome_none,bM3,bO2,bI5,u,ai9]
    ·cases h
  ·cases h
 ·rename_i e  N
  split at h
  ·cases h
  rename_i ie F;split at h
  ·rename_i len cap
   cases hb:Nat.beq len 0&&Nat.beq cap 0 with
   |false=>grind
   |true=>
    rw[hb,bG8]at h;simp only[bF2]at hb;have e1:=bF6 hb.1;have e2:=bF6 hb.2;subst e1;subst e2;cases hx;split at h
    ·rename_i ad g
     obtain⟨l,hh,m⟩:=ad;cases h;obtain⟨O,H,I,u⟩:=A7 (P:=P) (cap:=0) g h1 h2 h3 (bH4 _) (bH4 _) true;have y:l=0:=by omega
     have M:hh=0:=by omega
     have ac:m.getD 0=0:=by omega
     subst y;subst M;rw[ac]at u;refine⟨σ,_,w,?_,Sg.gr_refl _ σ,.nils 0 0,E⟩;simp only[Instr.sliceAt,bI0,bH5 N,bH6,Instr.slice,u,sizeOf,typeInfo,bP3,F,bI5,bO3,bP9]
    ·cases h
  ·rename_i cap
   split at h
   ·rename_i l hh g
    cases h;cases hx with
    |vague q c'=>
     obtain⟨O,H,I,u⟩:=A7 (P:=P) (cap:=c') g h1 h2 h3 (bO6 _) (bH4 _) true;simp only[Option.getD_none]at H I u;have y:l=0:=by omega
     have M:hh=0:=by omega
     subst y;subst M;refine⟨σ,.slice (some q) 0 c',w,?_,Sg.gr_refl _ σ,.vague q c',E⟩;have hq:(q.add 0)=q:=by simp[Addr.add]
     simp only[Instr.sliceAt,bI0,bH5 N,bH6,Instr.slice,u,sizeOf,typeInfo,bP3,F,bI5,bP9,bN3,bO0,bJ6,hq,ite_self]
   ·cases h
  ·rename_i i o len cap
   cases hx with
   |slice _ _ p _ _ c' j aj U=>
   have runs : ∀ (l hh m : Nat), (∀ w, (Instr.sliceBounds true len c' lo' hi' mx').run P w = .ok (l, hh, m) w) →
     (Instr.sliceAt t (.slice (some ⟨p.blk,p.dl+o,none⟩) len c') lo' hi' mx').run P w= .ok (.slice (some (if m=l then⟨p.blk,p.dl+o,none⟩else⟨p.blk,p.dl+(o+l*ie.size),none⟩)) (hh-l) (m-l)) w:=by
    intro l hh m u;simp only[Instr.sliceAt,bI0,bH5 N,bH6,Instr.slice,u,sizeOf,typeInfo,bP3,F,bI5]
    by_cases f:m=l
    ·simp[f]
    ·simp[f,bO4,bL1]
   cases C:Nat.ble unk cap with
   |true=>
    rw[C,bG8]at h;have C:=bF5 C;obtain⟨S,R,J⟩:F7 cap<=c'/\(z7 cap=0\/c'<z7 cap)/\p.dl+o+c'*p.esz<=p.siz:=by
     grind
    have T:z7 cap<unk:=Nat.mod_lt _ B0;have W:Nat.max (F7 cap) len<=c':=Nat.max_le.2 ⟨S,U⟩;have K:len<=Nat.max (F7 cap) len:=bM1 _ _;generalize ai:Nat.max (F7 cap) len=L at h W K;cases G:Nat.ble L 67108864 with
    |false=>grind
    |true=>
    rw[G,bG8]at h;have G:=bF5 G;split at h
    ·cases h
    ·rename_i l hh m g
     obtain⟨O,H,I,u⟩:=A7 (P:=P) (cap:=c') g h1 h2 h3 W K true;simp only[bJ3]at H I u;have hr:=runs l hh m u;have A:m-l<unk:=by unfold unk;omega
     cases f:Nat.beq m l with
     |true=>
      rw[f,bG8]at h;have f:=bF6 f;subst f;cases h;rw[bH3 rfl]at hr;exact⟨σ,_,w,hr,Sg.gr_refl _ σ,.slice i o p _ _ _ j (.inl ⟨rfl,A⟩) (by omega),E⟩
     |false=>
      rw[f,bG9]at h;have z:m≠l:=fun e=>by rw[e,j9 rfl]at f;cases f
      cases h;rw[bH1 z]at hr;exact⟨σ,_,w,hr,Sg.gr_refl _ σ,.slice i _ p _ _ _ j (.inl ⟨rfl,A⟩) (by omega),E⟩
    ·rename_i l hh g
     obtain⟨O,H,I,u⟩:=A7 (P:=P) (cap:=c') g h1 h2 h3 W K true;simp only[Option.getD_none]at H I u;have hr:=runs l hh c' u;cases y:Nat.beq l 0 with
     |true=>
      rw[y,bG8]at h;have y:=bF6 y;subst y;cases h;simp only[bO0,bL7,ite_self,bN3]at hr;exact⟨σ,_,w,hr,Sg.gr_refl _ σ,.slice i o p _ _ _ j (.inr ⟨j4 _ _,by rw[D4 T];exact W,by rw[C5 T];exact R,J⟩) (by omega),E⟩
     |false=>
      rw[y,bG9]at h;cases D:Nat.beq l L with
      |true=>
       rw[D,bG8]at h;have D:=bF6 D;have aa:hh=l:=by omega
       subst aa;cases h;rw[bP9]at hr;exact⟨σ,_,w,hr,Sg.gr_refl _ σ,.vague _ _,E⟩
      |false=>
       rw[D,bG9]at h;have ah:l≠L:=fun e=>by rw[e,j9 rfl]at D;cases D
       split at h
       case h_2=>cases h
       rename_i tc k e' z' hg;obtain⟨k1,k2⟩:=E.place hg j;cases V:Nat.beq z' ie.size with
       |false=>grind
       |true=>
        rw[V,bG8]at h;have ak:=bF6 V;have Z:p.esz=ie.size:=by grind
        cases h;have Y:c'≠l:=by omega
        rw[bH1 Y]at hr;refine⟨σ,_,w,hr,Sg.gr_refl _ σ,.slice i _ p _ _ _ j (.inr ⟨j4 _ _,by rw[D4 (by omega)];omega,by rw[C5 (by omega)];omega,?_⟩) (by omega),E⟩
        rw[Z]at J⊢;have:l*ie.size+(c'-l)*ie.size=c'*ie.size:=by rw[<-bI7];congr 1;omega
        omega
   |false=>
    rw[C,bG9]at h;have ae:¬unk<=cap:=fun h=>by rw[bF8 h]at C;cases C
    have Q:cap=c'/\cap<unk:=by grind
    obtain⟨rfl,X⟩:=Q;cases ab:Nat.ble len cap with
    |false=>grind
    |true=>
    rw[ab,bG8]at h;split at h
    ·cases h
    ·rename_i l hh m g
     obtain⟨O,H,I,u⟩:=A7 (P:=P) (cap:=cap) g h1 h2 h3 (bH4 _) U true;have hr:=runs l hh (m.getD cap) u;have A:m.getD cap-l<unk:=by omega
     cases f:Nat.beq (m.getD cap) l with
     |true=>
      rw[f,bG8]at h;have f:=bF6 f;cases h;rw[bH3 f]at hr;exact⟨σ,_,w,hr,Sg.gr_refl _ σ,.slice i o p _ _ _ j (.inl ⟨rfl,A⟩) (by omega),E⟩
     |false=>
      rw[f,bG9]at h;have z:m.getD cap≠l:=fun e=>by rw[e,j9 rfl]at f;cases f
      cases h;rw[bH1 z]at hr;exact⟨σ,_,w,hr,Sg.gr_refl _ σ,.slice i _ p _ _ _ j (.inl ⟨rfl,A⟩) (by omega),E⟩
  ·cases h
 ·rename_i n e N
  split at h
  ·cases h
  rename_i ie F;split at h
  ·rename_i i o
   cases hx with
   |ptr _ _ p j=>
   cases hn:Nat.ble n 16777216 with
   |false=>grind
   |true=>
   rw[hn,bG8]at h;have hn:=bF5 hn;split at h
   ·cases h
   ·rename_i l hh m g
    obtain⟨O,H,I,u⟩:=A7 (P:=P) (cap:=n) g h1 h2 h3 (bH4 _) (bH4 _) false;have hr:(Instr.sliceAt t (.pointer (some ⟨p.blk,p.dl+o,none⟩)) lo' hi' mx').run P w= .ok (.slice (some (if m.getD n=l then⟨p.blk,p.dl+o,none⟩else⟨p.blk,p.dl+(o+l*ie.size),none⟩)) (hh-l) (m.getD n-l)) w:=by
     simp only[Instr.sliceAt,bI0,bH5 N,bH6,Instr.sureAddr,u,sizeOf,typeInfo,bP3,F,bI5]
     by_cases f:m.getD n=l
     ·simp[f]
     ·simp[f,bO4,bL1]
    have A:m.getD n-l<unk:=by unfold unk;omega
    cases f:Nat.beq (m.getD n) l with
    |true=>
     rw[f,bG8]at h;have f:=bF6 f;cases h;rw[bH3 f]at hr;exact⟨σ,_,w,hr,Sg.gr_refl _ σ,.slice i o p _ _ _ j (.inl ⟨rfl,A⟩) (by omega),E⟩
    |false=>
     rw[f,bG9]at h;have z:m.getD n≠l:=fun e=>by rw[e,j9 rfl]at f;cases f
     cases h;rw[bH1 z]at hr;exact⟨σ,_,w,hr,Sg.gr_refl _ σ,.slice i _ p _ _ _ j (.inl ⟨rfl,A⟩) (by omega),E⟩
  ·cases h
 ·cases h
end
end Go.Xe
end PartXm9
noncomputable section PartXmM
namespace Go.Xe
open Go.RowKit
section
variable {P :Program}{B:BS}{w0:World}{σ:Sg}{hp:Hp}{w:World}
def aC4 (hp : Hp) (it : Value) (isString : Bool) : Option (Value × Hp) :=
 match it,isString with
 | .pointer (some ⟨i, 0, none⟩), true => match hp.m.get i with
  | some (.sit s pos) => bif Nat.blt pos s.data.toList.length then
    some (.tuple #[.bool true,.int .i64 pos,.int .i32 (Utf8.decode s pos).1],{hp with m:=hp.m.set i (some (.sit s (pos+(Utf8.decode s pos).2)))})
   else some (.tuple #[.bool false],hp)
  |_=>none
 |_,_=>none
variable {a b:Value}
theorem VR.tup1 {σ:Sg}(h:VR σ a b):VR σ (.tuple #[a]) (.tuple #[b]):=(VRL.cons h (VRL.nil σ)).to_tuple
variable {c d:Value}
theorem VR.tup2 {σ:Sg}(h:VR σ a b)(k:VR σ c d):VR σ (.tuple #[a,c]) (.tuple #[b,d]):=(VRL.cons h (VRL.cons k (VRL.nil σ))).to_tuple
theorem VR.tup3 {σ:Sg}{e f:Value}(h:VR σ a b)(k:VR σ c d)(l:VR σ e f):VR σ (.tuple #[a,c,e]) (.tuple #[b,d,f]):=(VRL.cons h (VRL.cons k (VRL.cons l (VRL.nil σ)))).to_tuple
variable {o:Obj}
theorem G7 {r:Nat}(h:w.heap[r]? =some o)(hc:∀c e f,o≠ .cells c e f):(getObj r).run P w= .ok o w:=by
 simp only[getObj,Sem.run,h]
theorem O8 {r:Nat}{o':Obj}(h:w.heap[r]? =some o)(hc:∀c e f,o≠ .cells c e f):(setObj r o').run P w= .ok () {w with heap:=w.heap.setIfInBounds r o'}:=by
 simp only[setObj,Sem.run,h]
theorem HR.setO (h : HR B w0 σ hp w) {i : Nat} {b b' : Blk} ( l : hp.m.get i = some b) {p : Pl} (  f : σ i = some p)  (hb : BR σ p b' o) (  j : P4 b = false := by rfl) (   g : P4 b' = false := by rfl) :
  HR B w0 σ {hp with m:=hp.m.set i (some b')} {w with heap:=w.heap.setIfInBounds p.blk o}:=by
 obtain⟨p',o',n,_,q,_⟩:=h.live i b l;have:p'=p:=bH7 (n.symm.trans f);subst this;have hlt:=(bG6.1 q).1;refine h.turn l f ?_ (fun k hk=>?_) (by simp) rfl rfl rfl hb j g
 ·simp[hlt]
 ·grind
variable {v:Value}{hp':Hp}
theorem aV9 { z   j:Value} {isS : Bool}  (h : aC4 hp  z isS = some (v, hp')) (hi : VR σ  z   j) ( q : HR B w0 σ hp w) (ty : TypeId) :
  MOK hp B w0 σ v hp' ((Instr.next j isS ty).run P w):=by
 unfold aC4 at h;split at h
 ·rename_i i
  cases hi with
  |ptr _ _ p n=>
  split at h
  ·rename_i s pos y
   obtain⟨p',o,t,C,u,A,l⟩:=q.live i _ y;have:p'=p:=bH7 (t.symm.trans n);subst this;subst A;have g:=G7 (P:=P) u (fun c e f h=>by cases h)
   cases hlt:Nat.blt pos s.data.toList.length with
   |true=>
    rw[hlt,bG8]at h;cases h;have hpos:pos<s.size:=by simp_all
    have hset:=O8 (P:=P) (o':= .stringIter s (pos+(Utf8.decode s pos).2)) u (fun c e f h=>by cases h)
    refine⟨σ,_,_,?_,Sg.gr_refl _ σ,VR.tup3 (.bool true) (.int .i64 pos) (.int .i32 _),q.setO y t (b':= .sit s (pos+(Utf8.decode s pos).2)) ⟨rfl,l⟩⟩;simp[Instr.next,l,g,hpos,hset,goInt]
   |false=>
    rw[hlt,bG9]at h;cases h;have hpos:¬pos<s.size:=by
     intro hc;rw[show Nat.blt pos s.data.toList.length=true from bF8 (by simp;omega)]at hlt
     cases hlt
    refine⟨σ,_,w,?_,Sg.gr_refl _ σ,VR.tup1 (.bool false),q⟩;simp[Instr.next,l,g,hpos]
  ·cases h
 ·cases h
def aW4 (kind:TypeDesc)(a b:Value):Option Bool:=
 match kind,a,b with
 | .int _,.int k x,.int k' y=>bif decide (k=k')then some (decide (x=y))else none
 | .string,.string x,.string y=>some (x.data.toList==y.data.toList)
 | .bool,.bool x,.bool y=>some (x==y)
 |_,_,_=>none
variable {a' b':Value}
theorem as7 {   f : TypeDesc}  {r : Bool} (h : aW4    f a b = some r) ( i : VR σ a a') (hb : VR σ b b') :
  Instr.sameNow f a' b'=some r/\(r=true->a=b/\Instr.sameBits 10000 b' a'=true):=by
 unfold aW4 at h;split at h
 ·rename_i k0 k x k' y
  cases i;cases hb;cases hk:decide (k=k')with
  |false=>grind
  |true=>
   rw[hk]at h;simp only[bH2]at hk;subst hk;simp only[bG8,bF1]at h;subst h;refine⟨?_,fun hr=>?_⟩
   ·simp only[Instr.sameNow,bO3];congr 1
   ·simp only[bH2]at hr
    subst hr;exact⟨rfl,by simp[Instr.sameBits]⟩
 ·rename_i x y
  cases i;cases hb;cases h;have e:(x==y)=(x.data.toList==y.data.toList):=by rw[beq_toListBytes,bP4,bP4]
  refine⟨by simp only[Instr.sameNow,e],fun hr=>?_⟩
  have g:x=y:=by
   obtain⟨⟨x⟩⟩:=x
   simp_all
  subst g;exact⟨rfl,by simp only[Instr.sameBits,e,hr]⟩
 ·rename_i x y
  cases i;cases hb;cases h;refine⟨rfl,fun hr=>?_⟩
  have g:x=y:=by grind
  subst g;exact⟨rfl,by simp[Instr.sameBits]⟩
 ·cases h
def as2 (kind:TypeDesc)(k:Value):List (Value×Value)->Nat->Option (Option (Nat×Value))
 | [],_=>some none
 |e::es,i=>match aW4 kind k e.1 with
  |some true=>some (some (i,e.2))
  |some false=>as2 kind k es (i+1)
  |none=>none
theorem as3 {   f : TypeDesc} {k k' : Value} (hk : VR σ k k') : ∀ {es : List (Value × Value)} {ents : List MapEntry} {i : Nat} {r : Option (Nat × Value)}, as2    f k es i = some r →
  es.length=ents.length->(∀(j:Nat) x e,es[j]? =some x->ents[j]? =some e->VR σ x.1 e.key/\VR σ x.2 e.val)->
  (r=none->Instr.findNow f k' ents i=some none)/\
  (∀n v,r=some (n,v)->i<=n/\ ∃u x e,Instr.findNow f k' ents i=some (some (n,u))/\VR σ v u/\es[n-i]? =some x/\ents[n-i]? =some e/\x=(k,v)/\Instr.sameBits 10000 e.key k'=true)
 | [],ents,i,r,h,hl,_=>by
  simp only[as2,bF1]at h;subst h;have:ents=[]:=bF7 hl.symm;subst this;exact⟨fun _=>rfl,(fun n v h=>by cases h)⟩
 |x::es,[],i,r,h,hl,_=>by simp at hl
 |x::es,e::ents,i,r,h,hl,hr=>by
  obtain⟨h1,h2⟩:=hr 0 x e rfl rfl;simp only[as2]at h;split at h
  ·rename_i hs
   obtain⟨s1,s2⟩:=as7 hs hk h1;obtain⟨t,y⟩:=s2 rfl;cases h;refine⟨(fun h=>by cases h),fun n v h=>?_⟩
   cases h;exact⟨bH4 _,e.val,x,e,by simp only[Instr.findNow,s1],h2,by simp,by simp,by rw[t],y⟩
  ·rename_i hs
   obtain⟨s1,_⟩:=as7 hs hk h1;obtain⟨i1,l⟩:=as3 (ents:=ents) hk h (by simpa using hl) (fun j x' e' hx he=>hr (j+1) x' e' (by simpa using hx) (by simpa using he))
   refine⟨fun hn=>by simp only[Instr.findNow,s1];exact i1 hn,fun n v g=>?_⟩
   obtain⟨z,u,x',e',p,q,A,C,s⟩:=l n v g;refine⟨by omega,u,x',e',by simp only[Instr.findNow,s1];exact p,q,?_,?_,s⟩
   ·grind
   ·grind
  ·cases h
def aJ7 (d:TypeDesc):Bool:=
 match d with
 | .int _| .string| .bool=>true
 |_=>false
theorem aK8 {t:TypeId}{d:TypeDesc}(f:P.underlying t=some d)(hk:aJ7 d=true)(b:Bool)(v:Value):(Instr.checkKey b 10000 t v).run P w= .ok () w:=by
 show(Instr.checkKey b (9999+1) t v).run P w= .ok () w;unfold Instr.checkKey;simp only[bI0,bH5 f,bH6];cases d<;>simp[aJ7]at hk<;>rfl
def af5 (P:Program)(cs:List Value):List Field->Bool
 | []=>true
 |f::fs=>match P.underlying f.type,U7 P f.type cs f.offset with
  |some d,some _=>aJ7 d&&af5 P cs fs
  |_,_=>false
def aD0 :List Value->List Value->Bool
 | [],[]=>true
 | .int k x::xs,.int k' y::ys=>decide (k=k')&&decide (x=y)&&aD0 xs ys
 | .bool x::xs,.bool y::ys=>(x==y)&&aD0 xs ys
 | .string x::xs,.string y::ys=>(x.data.toList==y.data.toList)&&aD0 xs ys
 |_,_=>false
def xsb (a b:Value):Bool:=
 match a,b with
 | .agg xs,.agg ys=>aD0 xs.toList ys.toList
 |_,_=>false
theorem bc9 : ∀ {xs ys   f   g : List Value}, aD0 xs ys = true → VRL σ xs   f → VRL σ ys   g →
  f.length=g.length/\(f.zip g).all (fun p=>Instr.sameBits 9999 p.1 p.2)=true:=by
 intro xs
 induction xs with
 |nil=>
  intro ys f g h hx hy;cases ys with
  |nil=>rw[hx.unnil,hy.unnil];exact⟨rfl,rfl⟩
  |cons y ys=>simp[aD0]at h
 |cons x xs z=>
  intro ys f g h hx hy;cases ys with
  |nil=>cases x<;>simp[aD0]at h
  |cons y ys=>
   obtain⟨x',f,rfl,l,n⟩:=hx.uncons;obtain⟨A,g,rfl,q,s⟩:=hy.uncons;unfold aD0 at h;split at h
   ·grind
   ·rename_i k a _ k' b _ i j
    simp only[bM0]at i j;obtain⟨rfl,rfl⟩:=i;obtain⟨rfl,rfl⟩:=j;simp only[bF2,bH2]at h;obtain⟨⟨rfl,rfl⟩,h⟩:=h;obtain⟨t,u⟩:=z h n s;cases l;cases q;exact⟨by simp[t],by simp only[List.zip_cons_cons,List.all_cons,u,bN9];simp[Instr.sameBits]⟩
   ·rename_i a _ b _ i j
    simp only[bM0]at i j;obtain⟨rfl,rfl⟩:=i;obtain⟨rfl,rfl⟩:=j;simp only[bF2]at h;obtain⟨h1,h⟩:=h;obtain⟨t,u⟩:=z h n s;cases l;cases q;exact⟨by simp[t],by simp only[List.zip_cons_cons,List.all_cons,u,bN9];simpa [Instr.sameBits]using h1⟩
   ·rename_i a _ b _ i j
    simp only[bM0]at i j;obtain⟨rfl,rfl⟩:=i;obtain⟨rfl,rfl⟩:=j;simp only[bF2]at h;obtain⟨h1,h⟩:=h;obtain⟨t,u⟩:=z h n s;cases l;cases q;have e:(a==b)=(a.data.toList==b.data.toList):=by rw[beq_toListBytes,bP4,bP4]
    exact⟨by simp[t],by simp only[List.zip_cons_cons,List.all_cons,u,bN9];simp only[Instr.sameBits,e,h1]⟩
   ·cases h
theorem bo3 (h:xsb a b=true)(f:VR σ a a')(hb:VR σ b b'):Instr.sameBits 10000 a' b'=true:=by
 unfold xsb at h;split at h
 ·obtain⟨g,rfl,hx⟩:=VRL.of_agg f
  obtain⟨i,rfl,hy⟩:=VRL.of_agg hb;obtain⟨j,l⟩:=bc9 h hx hy;show Instr.sameBits (9999+1) _ _=true;simp only[Instr.sameBits,bF2,beq_iff_eq]
  grind
 ·cases h
def X4 (P:Program)(kt:TypeId)(k:Value):List (Value×Value)->Nat->Option (Option (Nat×Value))
 | [],_=>some none
 |e::es,i=>match xeq P 10000 kt k e.1 with
  |some true=>bif xsb e.1 k then some (some (i,e.2))else none
  |some false=>X4 P kt k es (i+1)
  |none=>none
def P2 (P:Program)(kt:TypeId)(d:TypeDesc)(k:Value)(es:List (Value×Value)):Option (Option (Nat×Value)):=
 match d with
 | .struct fs=>match k with
  | .agg cs=>bif af5 P cs.toList fs.toList then X4 P kt k es 0 else none
  |_=>none
 |d=>bif aJ7 d then as2 d k es 0 else none
theorem am4 {kt : TypeId} {k k' : Value} (hk : VR σ k k') (w : World) : ∀ {es : List (Value × Value)} {ents : List MapEntry} {i : Nat} {r : Option (Nat × Value)}, X4 P kt k es i = some r →
  es.length=ents.length->(∀(j:Nat) x e,es[j]? =some x->ents[j]? =some e->VR σ x.1 e.key/\VR σ x.2 e.val)->
  (r=none->(Instr.findAsking kt k' ents i).run P w= .ok none w)/\
  (∀n v,r=some (n,v)->i<=n/\ ∃u x e,(Instr.findAsking kt k' ents i).run P w= .ok (some (n,u)) w/\VR σ v u/\es[n-i]? =some x/\ents[n-i]? =some e/\Instr.sameBits 10000 e.key k'=true)
 | [],ents,i,r,h,hl,_=>by
  simp only[X4,bF1]at h;subst h;have:ents=[]:=bF7 hl.symm;subst this;exact⟨fun _=>by simp[Instr.findAsking],(fun n v h=>by cases h)⟩
 |x::es,[],i,r,h,hl,_=>by simp at hl
 |x::es,e::ents,i,r,h,hl,hr=>by
  obtain⟨h1,h2⟩:=hr 0 x e rfl rfl;simp only[X4]at h;split at h
  ·rename_i hs
   have s1:(Op.equal kt k' e.key).run P w= .ok true w:=ap8 10000 kt k x.1 true hs k' e.key hk h1 w;cases hb:xsb x.1 k with
   |false=>grind
   |true=>
   rw[hb,bG8]at h;cases h;refine⟨(fun h=>by cases h),fun n v h=>?_⟩
   cases h;exact⟨bH4 _,e.val,x,e,by simp only[Instr.findAsking,bI0,s1,bH6,bO3,bI5],h2,by simp,by simp,bo3 hb h1 hk⟩
  ·rename_i hs
   have s1:(Op.equal kt k' e.key).run P w= .ok false w:=ap8 10000 kt k x.1 false hs k' e.key hk h1 w;obtain⟨i1,f⟩:=am4 (ents:=ents) hk w h (by simpa using hl) (fun j x' e' hx he=>hr (j+1) x' e' (by simpa using hx) (by simpa using he))
   have step:(Instr.findAsking kt k' (e::ents) i).run P w=(Instr.findAsking kt k' ents (i+1)).run P w:=by
    simp only[Instr.findAsking,bI0,s1,bH6,bM3,bO2]
   grind
  ·cases h
theorem aD4 {t : TypeId} {fs : Array Field} ( h : P.underlying t = some (.struct fs)) {cs : List Value} {  g : Array Value} (hc : VRL σ cs   g.toList) (hk : af5 P cs fs.toList = true) (b : Bool) (w : World) :
  (Instr.checkKey b 10000 t (.agg g)).run P w= .ok () w:=by
 have key : ∀ (l : List Field), af5 P cs l = true → (forIn l PUnit.unit (fun f _ => do
   if f.name≠ "_" then Instr.checkKey b 9999 f.type (<-part f.type g f.offset)
   pure (ForInStep.yield PUnit.unit)):Sem PUnit).run P w= .ok PUnit.unit w:=by
  intro l
  induction l with
  |nil=>intro _;simp
  |cons f l n=>
   intro hl;simp only[af5]at hl;split at hl
   ·rename_i d v j hp
    simp only[bF2]at hl;obtain⟨u,_,h⟩:=L9 hp hc;have i:∀v,(Instr.checkKey b 9999 f.type v).run P w= .ok () w:=by
     intro v;show(Instr.checkKey b (9998+1) f.type v).run P w= .ok () w;unfold Instr.checkKey;simp only[bI0,bH5 j,bH6];have:=hl.1;cases d<;>simp[aJ7]at this<;>rfl
    simp_all
   ·cases hl
 show(Instr.checkKey b (9999+1) t (.agg g)).run P w= .ok () w;unfold Instr.checkKey;simp only[bI0,bH5 h,bH6];have:=key fs.toList hk
 simp_all
variable {k k':Value}
theorem B5 {kt : TypeId} {d : TypeDesc} ( g : P.underlying kt = some d)  (hk : VR σ k k') {es : List (Value × Value)} {ents : List MapEntry} {r : Option (Nat × Value)} (h : P2 P kt d k es = some r)
  (hl:es.length=ents.length) (hr:∀(j:Nat) x e,es[j]? =some x->ents[j]? =some e->VR σ x.1 e.key/\VR σ x.2 e.val) (w:World):
  (∀b,(Instr.checkKey b 10000 kt k').run P w= .ok () w)/\(r=none->(Instr.findKey kt k' ents).run P w= .ok none w)/\
  (∀n v,r=some (n,v)-> ∃u x e,(Instr.findKey kt k' ents).run P w= .ok (some (n,u)) w/\VR σ v u/\es[n]? =some x/\ents[n]? =some e/\Instr.sameBits 10000 e.key k'=true):=by
 unfold P2 at h;split at h
 ·rename_i fs
  split at h
  ·rename_i cs
   obtain⟨f,rfl,q⟩:=VRL.of_agg hk;cases hb:af5 P cs.toList fs.toList with
   |false=>grind
   |true=>
   rw[hb,bG8]at h;obtain⟨p,t⟩:=am4 hk w h hl hr;have s:(Instr.findKey kt (.agg f) ents).run P w=(Instr.findAsking kt (.agg f) ents 0).run P w:=by
    simp only[Instr.findKey,bI0,bH5 g,bH6];cases ents with
    |nil=>simp[Instr.findNow,Instr.findAsking]
    |cons e ents=>simp[Instr.findNow,Instr.sameNow]
   refine⟨fun b=>aD4 g q hb b w,fun hn=>by rw[s];exact p hn,fun n v l=>?_⟩
   grind
  ·cases h
 ·cases i:aJ7 d with
  |false=>grind
  |true=>
   rw[i,bG8]at h;obtain⟨p,t⟩:=as3 hk h hl hr;refine⟨fun b=>aK8 g i b k',fun hn=>?_,fun n v l=>?_⟩
   ·simp only[Instr.findKey,bI0,bH5 g,bH6,p hn,bI5]
   ·obtain⟨_,u,x,e,A,C,y,z,_,D⟩:=t n v l
    rw[bN3]at y z;exact⟨u,x,e,by simp only[Instr.findKey,bI0,bH5 g,bH6,A,bI5],C,y,z,D⟩
def B3 (P : Program) (hp : Hp) (t : TypeId) (x k : Value) (ok : Bool) : Option Value :=
 match P.underlying t with
 | some (.map kt et) => match P.underlying kt with
  | some d =>
    match(match x with
     | .map none=>some []
     | .map (some i)=>match hp.m.get i with
      |some (.map es _)=>some es
      |_=>none
     |_=>none)with
    |none=>none
    |some es=>match P2 P kt d k es with
     |some (some (_,v))=>some (bif ok then .tuple #[v,.bool true]else v)
     |some none=>match E9 P et with
      |some z=>some (bif ok then .tuple #[z,.bool false]else z)
      |none=>none
     |none=>none
  |none=>none
 |_=>none
variable {x x':Value}
theorem aE3 {t : TypeId}  {ok : Bool} (h : B3 P hp t x k ok = some v) (hx : VR σ x x') (hk : VR σ k k') ( Q : HR B w0 σ hp w) :
  ∃u,VR σ v u/\(Instr.lookup t x' k' ok).run P w= .ok u w:=by
 unfold B3 at h;split at h
 ·rename_i kt  F  H
  split at h
  ·rename_i d  G
   have    q : ∀ (es : List (Value × Value)) (ents : List MapEntry), es.length = ents.length → (∀ (j : Nat) x e, es[j]? = some x → ents[j]? = some e → VR σ x.1 e.key ∧ VR σ x.2 e.val) →
     (match P2 P kt d k es with
      |some (some (_,v))=>some (bif ok then .tuple #[v,.bool true]else v)
      |some none=>match E9 P F with
       |some z=>some (bif ok then .tuple #[z,.bool false]else z)
       |none=>none
      |none=>none)=some v->
     (∀b,(Instr.checkKey b 10000 kt k').run P w= .ok () w)/\ ∃u,VR σ v u/\(do
      let(v,ok')<-match<-Instr.findKey kt k' ents with
       |some (_,v)=>pure (v,true)
       |none=>pure (<-zeroValue F,false)
      pure (if ok then .tuple #[v,.bool ok']else v):Sem Value).run P w= .ok u w:=by
    intro es ents hl hr h;split at h
    ·rename_i n S hf
     obtain⟨l,_,J⟩:=B5 G hk hf hl hr w;obtain⟨u,V,T,D,y,_⟩:=J n S rfl;cases h;refine⟨l,if ok then .tuple #[u,.bool true]else u,?_,?_⟩
     ·cases ok
      ·exact y
      ·exact VR.tup2 y (.bool true)
     ·simp_all
    ·rename_i hf
     obtain⟨l,y,_⟩:=B5 G hk hf hl hr w;have D:=y rfl;split at h
     ·rename_i z hz
      obtain⟨hc,R⟩:=E2 hz;cases h;refine⟨l,if ok then .tuple #[z,.bool false]else z,?_,?_⟩
      ·cases ok
       ·exact M2 σ hc
       ·exact VR.tup2 (M2 σ hc) (.bool false)
      ·simp_all
     ·cases h
    ·cases h
   split at h
   ·cases h
   ·rename_i es g
    split at g
    ·simp only[bF1]at g
     subst g;cases hx;obtain⟨l,u,h1,h2⟩:=q [] [] rfl (fun j x e hx=>by simp at hx) h
     refine⟨u,h1,?_⟩;simp only[Instr.lookup,bI0,bH5 H,bH6,bI5,l]
     simp_all;omega
    ·rename_i i
     split at g
     ·rename_i C I O
      simp only[bF1]at g;subst g;cases hx with
      |map _ p E=>
      obtain⟨p',o,K,_,L,ents,A,rfl,M,N,U⟩:=Q.live i _ O;have:p'=p:=bH7 (K.symm.trans E);subst this;have s:=G7 (P:=P) L (fun c e f h=>by cases h)
      obtain⟨l,u,h1,h2⟩:=q C ents.toList (by simpa using M.symm) (fun j x e hx he=>N j x e hx (by simpa using he)) h
      refine⟨u,h1,?_⟩;simp only[Instr.lookup,bI0,bH5 H,bH6,s,bI5,l]
      simp_all;omega
     ·cases g
    ·cases g
  ·cases h
 ·cases h
def Q7 (P : Program) (hp : Hp) (t : TypeId) (m k x : Value) : Option Hp :=
 match P.underlying t with
 | some (.map kt _) => match P.underlying kt with
  | some d =>
    match m with
    | .map (some i)=>match hp.m.get i with
     |some (.map es reg)=>match P2 P kt d k es with
      |some (some (n,_))=>some {hp with m:=hp.m.set i (some (.map (es.set n (k,x)) reg))}
      |some none=>some {hp with m:=hp.m.set i (some (.map (es++ [(k,x)]) reg))}
      |none=>none
     |_=>none
    |_=>none
  |none=>none
 |_=>none
variable {m m':Value}
theorem af6 {t : TypeId}   (h : Q7 P hp t m k x = some hp') (hm : VR σ m m') (hk : VR σ k k') (hx : VR σ x x') ( G : HR B w0 σ hp w) :
  ∃w',(Instr.mapUpdate t m' k' x').run P w= .ok () w'/\HR B w0 σ hp' w'/\hp'.nx=hp.nx:=by
 unfold Q7 at h;split at h
 ·rename_i kt Q L
  split at h
  ·rename_i d K
   split at h
   ·rename_i i
    cases hm with
    |map _ p F=>
    split at h
    ·rename_i es reg D
     obtain⟨p',o,A,_,I,ents,g,rfl,J,N,U⟩:=G.live i _ D;have:p'=p:=bH7 (A.symm.trans F);subst this;have l:=G7 (P:=P) I (fun c e f h=>by cases h)
     have hset:=fun o'=>O8 (P:=P) (o':=o') I (fun c e f h=>by cases h)
     have hl:es.length=ents.toList.length:=by grind
     have hr:∀(j:Nat) x e,es[j]? =some x->ents.toList[j]? =some e->VR σ x.1 e.key/\VR σ x.2 e.val:=fun j x e hx he=>N j x e hx (by simpa using he)
     split at h
     ·rename_i n O hf
      obtain⟨q,_,f0⟩:=B5 K hk hf hl hr w;obtain⟨u,V,H,s,R,S,T,M⟩:=f0 n O rfl;have C:ents[n]? =some H:=by grind
      cases h;have E:(Instr.keyThatStays H.key k').run P w= .ok k' w:=by
       simp only[Instr.keyThatStays,M,bO3,bI5]
      refine⟨_,?_,G.setO D A (b':= .map (es.set n (k,x)) reg) (o:= .map (ents.modify n fun e=> {e with key:=k',val:=x'}) g) ⟨_,_,rfl,by simp[J],fun j y e hy he=>?_,fun z=>?_⟩,rfl⟩
      ·simp only[Instr.mapUpdate,bI0,bH5 L,bH6,l,q,s,C,bJ6,bJ3,E,hset]
      ·grind
      ·grind
     ·rename_i hf
      obtain⟨q,f0,_⟩:=B5 K hk hf hl hr w;have s:=f0 rfl;cases h;refine⟨_,?_,G.setO D A (b':= .map (es++ [(k,x)]) reg) (o:= .map (ents.push {key:=k',val:=x',born:=g}) (g+1)) ⟨_,_,rfl,by simp[J],fun j y e hy he=>?_,fun z=>?_⟩,rfl⟩
      ·simp only[Instr.mapUpdate,bI0,bH5 L,bH6,l,q,s,hset]
      ·grind
      ·grind
     ·cases h
    ·cases h
   ·cases h
  ·cases h
 ·cases h
def E5 (P : Program) (hp : Hp) (t : TypeId) (m k : Value) : Option (Value × Hp) :=
 match P.underlying t with
 | some (.map kt et) => match P.underlying kt with
  | some d =>
    match m with
    | .map (some i)=>match hp.m.get i with
     |some (.map es true)=>match P2 P kt d k es with
      |some (some (n,v))=>match es[n]? with
       |some y=>some (.tuple #[v,.int .i64 n],{hp with m:=hp.m.set i (some (.map (es.set n (k,y.2)) true))})
       |none=>none
      |some none=>match E9 P et with
       |some z=>some (.tuple #[z,.int .i64 es.length],{hp with m:=hp.m.set i (some (.map (es++ [(k,z)]) true))})
       |none=>none
      |none=>none
     |_=>none
    |_=>none
  |none=>none
 |_=>none
theorem au0 {t : TypeId}   (h : E5 P hp t m k = some (v, hp')) (hm : VR σ m m') (hk : VR σ k k') ( J : HR B w0 σ hp w) :
  MOK hp B w0 σ v hp' ((Instr.mapEntry t m' k').run P w):=by
 unfold E5 at h;split at h
 ·rename_i kt Y N
  split at h
  ·rename_i d M
   split at h
   ·rename_i i
    cases hm with
    |map _ p I=>
    split at h
    ·rename_i es F
     obtain⟨p',o,D,_,L,ents,g,rfl,E,U,V⟩:=J.live i _ F;have:p'=p:=bH7 (D.symm.trans I);subst this;obtain⟨O,Q⟩:=V rfl;have l:=G7 (P:=P) L (fun c e f h=>by cases h)
     have hset:=fun o'=>O8 (P:=P) (o':=o') L (fun c e f h=>by cases h)
     have hl:es.length=ents.toList.length:=by grind
     have hr:∀(j:Nat) x e,es[j]? =some x->ents.toList[j]? =some e->VR σ x.1 e.key/\VR σ x.2 e.val:=fun j x e hx he=>U j x e hx (by simpa using he)
     split at h
     ·rename_i n W hf
      obtain⟨q,_,f0⟩:=B5 M hk hf hl hr w;obtain⟨u,X,C,s,R,S,Z,T⟩:=f0 n W rfl;have A:ents[n]? =some C:=by grind
      rw[S]at h;cases h;have H:(Instr.keyThatStays C.key k').run P w= .ok k' w:=by
       simp only[Instr.keyThatStays,T,bO3,bI5]
      refine⟨σ,.tuple #[u,goInt C.born],_,?_,Sg.gr_refl _ σ,?_,J.setO F D (b':= .map (es.set n (k,X.2)) true) (o:= .map (ents.modify n fun e=> {e with key:=k'}) g) ⟨_,_,rfl,by simp[E],fun j y e hy he=>?_,fun _=>?_⟩⟩
      ·simp only[Instr.mapEntry,bI0,bH5 N,bH6,l,q,s,A,bJ6,bJ3,H,hset,bI5]
      ·rw[Q n C A]
       exact VR.tup2 R (.int _ _)
      ·grind
      ·grind
     ·rename_i hf
      obtain⟨q,f0,_⟩:=B5 M hk hf hl hr w;have s:=f0 rfl;split at h
      ·rename_i z hz
       obtain⟨hc,K⟩:=E2 hz;cases h;refine⟨σ,.tuple #[z,goInt g],_,?_,Sg.gr_refl _ σ,?_,J.setO F D (b':= .map (es++ [(k,z)]) true) (o:= .map (ents.push {key:=k',val:=z,born:=g}) (g+1)) ⟨_,_,rfl,by simp[E],fun j y e hy he=>?_,fun _=>?_⟩⟩
       ·simp only[Instr.mapEntry,bI0,bH5 N,bH6,l,q,s,K,hset,bI5]
       ·rw[O,E]
        exact VR.tup2 (M2 σ hc) (.int _ _)
       ·rw[List.getElem?_append]at hy
        rw[Array.getElem?_push]at he
        by_cases hj:j<es.length
        ·grind
        ·rw[bH1 hj]at hy
         have G:j-es.length=0:=by grind
         rw[G]at hy;simp only[bG7,bF1]at hy;rw[bH3 (by omega)]at he
         simp only[bF1]at he;subst hy;subst he;exact⟨hk,M2 σ hc⟩
       ·grind
      ·cases h
     ·cases h
    ·cases h
   ·cases h
  ·cases h
 ·cases h
def H6 (hp:Hp)(m s x:Value):Option Hp:=
 match m,s with
 | .map (some i),.int _ (.ofNat n)=>match hp.m.get i with
  |some (.map es true)=>match es[n]? with
   |some y=>some {hp with m:=hp.m.set i (some (.map (es.set n (y.1,x)) true))}
   |none=>none
  |_=>none
 |_,_=>none
theorem am1 {t : TypeId} {s s':Value}  (h : H6 hp m s x = some hp') (hm : VR σ m m') (hs : VR σ s s') (hx : VR σ x x') ( E : HR B w0 σ hp w) :
  ∃w',(Instr.entryStore t m' s' x').run P w= .ok () w'/\HR B w0 σ hp' w'/\hp'.nx=hp.nx:=by
 unfold H6 at h;split at h
 ·rename_i i kd n
  cases hm with
  |map _ p u=>
  cases hs;split at h
  ·rename_i es D
   obtain⟨p',o,A,_,C,ents,g,rfl,G,K,H⟩:=E.live i _ D;have:p'=p:=bH7 (A.symm.trans u);subst this;obtain⟨J,F⟩:=H rfl;have l:=G7 (P:=P) C (fun c e f h=>by cases h)
   have hset:=fun o'=>O8 (P:=P) (o':=o') C (fun c e f h=>by cases h)
   split at h
   ·rename_i y hy
    cases h;have hn:n<ents.size:=by grind
    have I:ents[n]? =some ents[n]:=by simp[hn]
    have q:ents.findIdx? (fun e=>(e.born:Int)==Int.ofNat n)=some n:=by
     rw[Array.findIdx?_eq_some_iff_getElem];refine⟨hn,?_,fun j hj=>?_⟩
     ·grind
     ·have:=F j ents[j] (by simp[show j<ents.size by omega])
      grind
    refine⟨_,?_,E.setO D A (b':= .map (es.set n (y.1,x)) true) (o:= .map (ents.modify n fun e=> {e with val:=x'}) g) ⟨_,_,rfl,by simp[G],fun j z e hz he=>?_,fun _=>?_⟩,rfl⟩
    ·simp only[Instr.entryStore,bI0,bH6,l,asInt,asIntOf,bI5,q,hset]
    ·grind
    ·grind
   ·cases h
  ·cases h
 ·cases h
def Q6 (hp:Hp)(P:Program)(t:TypeId)(x:Value):Option Value:=
 match P.underlying t,x with
 |some (.map _ _),.map (some i)=>match hp.m.get i with
  |some (.map es _)=>some (.int .i64 es.length)
  |_=>none
 |_,_=>at9 P t x
theorem aV7 {t : TypeId}  (h : Q6 hp P t x = some v) (hx : VR σ x x') ( A : HR B w0 σ hp w) (ty : TypeId) (ats : Array TypeId) (  g : ats[0]? = some t) :
  VR σ v v/\(Builtin.len_ ats ty #[x']).run P w= .ok v w:=by
 unfold Q6 at h;split at h
 ·rename_i kt C i z
  split at h
  ·rename_i es y
   cases h;cases hx with
   |map _ p n=>
   obtain⟨p',o,q,_,s,ents,l,rfl,u,D,E⟩:=A.live i _ y;have:p'=p:=bH7 (q.symm.trans n);subst this;have j:=G7 (P:=P) s (fun c e f h=>by cases h)
   refine⟨.int _ _,?_⟩;simp[Builtin.len_,g,bH5 z,j,goInt,u]
  ·cases h
 ·exact⟨(aC0 (P:=P) h hx ty ats g).1,(aC0 (P:=P) h hx ty ats g).2 w⟩
end
end Go.Xe
end PartXmM
noncomputable section PartXmC
namespace Go.Xe
open Go.RowKit
def Q8 (f:Value->Value->Bool):List Value->List Value->Bool
 | [],[]=>true
 |x::xs,y::ys=>f x y&&Q8 f xs ys
 |_,_=>false
theorem V1 {f:Value->Value->Bool}(hf:∀x y,f x y=true->x=y):∀ {xs ys:List Value},Q8 f xs ys=true->xs=ys
 | [],[],_=>rfl
 |x::xs,y::ys,h=>by
  simp only[Q8,bF2]at h;rw[hf _ _ h.1,V1 hf h.2]
 | [],_::_,h=>by cases h
 |_::_,[],h=>by cases h
def veq :Nat->Value->Value->Bool
 |0,_,_=>false
 |n+1,x,y=>match x,y with
  | .bool a,.bool b=>a==b
  | .int j a,.int k b=>decide (j=k)&&decide (a=b)
  | .string a,.string b=>a.data.toList==b.data.toList
  | .pointer a,.pointer b=>decide (a=b)
  | .slice a l c,.slice b l' c'=>decide (a=b)&&Nat.beq l l'&&Nat.beq c c'
  | .map a,.map b=>decide (a=b)
  | .nilFunc,.nilFunc=>true
  | .nilIface,.nilIface=>true
  | .iface t v,.iface u w=>Nat.beq t u&&veq n v w
  | .agg a,.agg b=>Q8 (veq n) a.toList b.toList
  | .tuple a,.tuple b=>Q8 (veq n) a.toList b.toList
  | .func f a c,.func g b d=>decide (f=g)&&Q8 (veq n) a.toList b.toList&&Q8 (veq n) c.toList d.toList
  | .complex f a b,.complex g c d=>decide (f=g)&&Nat.beq a c&&Nat.beq b d
  | .chan a,.chan b=>decide (a=b)
  |_,_=>false
theorem ap4 :∀(n:Nat) (x y:Value),veq n x y=true->x=y:=by
 intro n
 induction n with
 |zero=>intro x y h;cases h
 |succ n f=>
  intro x y h;simp only[veq]at h;split at h
  ·grind
  ·grind
  ·rename_i a b
   obtain⟨⟨a⟩⟩:=a
   simp_all
  ·grind
  ·simp_all
  ·grind
  ·rfl
  ·rfl
  ·simp only[bF2]at h;rw[bF6 h.1,f _ _ h.2]
  ·rw[bN2 (V1 f h)]
  ·rw[bN2 (V1 f h)]
  ·simp only[bF2,bH2]at h;rw[h.1.1,bN2 (V1 f h.1.2),bN2 (V1 f h.2)]
  ·simp_all
  ·grind
  ·cases h
section
variable {P :Program}{B:BS}{w0:World}{σ:Sg}{hp:Hp}{w:World}
def ap5 (P : Program) (hp : Hp) (t : TypeId) (x : Value) : Option (Value × Hp) :=
 match P.underlying t with
 | some (.slice e) => match x with
  | .slice none _ _=>some (.tuple #[],hp)
  | .slice (some _) 0 _=>some (.tuple #[],hp)
  | .slice (some ⟨i, o, none⟩) (n + 1) _ => match E9 P e with
   |none=>none
   | some z => match hp.m.get i with
    | some (.cells c k e' z') => bif Nat.ble (o + (xrep (n + 1) z.cells.toList).length) k && (xrep (n + 1) z.cells.toList).all Value.oneCell' then
      some (.tuple #[],aq1 hp i c k e' z' o (xrep (n+1) z.cells.toList))
     else none
    |_=>none
  |_=>none
 |some (.map _ _)=>match x with
  | .map none=>some (.tuple #[],hp)
  | .map (some i)=>match hp.m.get i with
   |some (.map _ _)=>some (.tuple #[],{hp with m:=hp.m.set i (some (.map [] false))})
   |_=>none
  |_=>none
 |_=>none
variable {v x x':Value}{hp':Hp}
theorem aM7 {t : TypeId}    (h : ap5 P hp t x = some (v, hp')) (hx : VR σ x x') ( q : HR B w0 σ hp w) (ty : TypeId) :
  MOK hp B w0 σ v hp' ((Builtin.clear_ #[t] ty #[x']).run P w):=by
 have tup:VR σ (.tuple #[]) (.tuple #[]):=VRL.to_tuple (VRL.nil σ);unfold ap5 at h;split at h
 ·rename_i e ht
  split at h
  ·simp only[bF1,bF3]at h
   obtain⟨rfl,rfl⟩:=h;cases hx;refine⟨σ,.tuple #[],w,?_,Sg.gr_refl _ σ,tup,q⟩;simp[Builtin.clear_,bH5 ht]
  ·simp only[bF1,bF3]at h
   obtain⟨rfl,rfl⟩:=h;cases hx<;>exact⟨σ,.tuple #[],w,by simp[Builtin.clear_,bH5 ht],Sg.gr_refl _ σ,tup,q⟩
  ·rename_i i o n c0
   split at h
   ·cases h
   rename_i z hz;split at h
   case h_2=>cases h
   rename_i c k e' Q s;cases hx with
   |slice _ _ p _ _ c' l I K=>
   obtain⟨k1,k2⟩:=q.place s l;cases hb:Nat.ble (o+(xrep (n+1) z.cells.toList).length) k&&(xrep (n+1) z.cells.toList).all Value.oneCell' with
   |false=>grind
   |true=>
    rw[hb,bG8,E6]at h;simp only[bF2]at hb;have J:=bF5 hb.1;cases h;obtain⟨hc,E⟩:=E2 hz;have H:VRL σ (xrep (n+1) z.cells.toList) (xrep (n+1) z.cells.toList):=(M2 σ hc).cells.xrep (n+1);have A:=H.all_oneCell hb.2;obtain⟨w',D,hh,_⟩:=q.store (o:=o) s l H A (by omega) (by omega) P
    have C:(Builtin.zeroCells z.cells (n+1)).toList=xrep (n+1) z.cells.toList:=ad0 z.cells (n+1);refine⟨σ,.tuple #[],w',?_,Sg.gr_refl _ σ,tup,?_⟩
    ·simp[Builtin.clear_,bH5 ht,E,C,D]
    ·grind
  ·cases h
 ·rename_i kt L ht
  split at h
  ·simp only[bF1,bF3]at h
   obtain⟨rfl,rfl⟩:=h;cases hx;refine⟨σ,.tuple #[],w,?_,Sg.gr_refl _ σ,tup,q⟩;simp[Builtin.clear_,bH5 ht]
  ·rename_i i
   split at h
   case h_2=>cases h
   rename_i es reg s;cases h;cases hx with
   |map _ p l=>
   obtain⟨p',o,F,_,G,ents,g,rfl,M,N,O⟩:=q.live i _ s;have:p'=p:=bH7 (F.symm.trans l);subst this;have u:=G7 (P:=P) G (fun c e f h=>by cases h)
   have hset:=O8 (P:=P) (o':= .map #[] g) G (fun c e f h=>by cases h)
   refine⟨σ,.tuple #[],_,?_,Sg.gr_refl _ σ,tup,q.setO s F (b':= .map [] false) (o:= .map #[] g) ⟨_,_,rfl,rfl,(fun j y e hy he=>by simp at hy),fun hr=>by cases hr⟩⟩
   simp[Builtin.clear_,bH5 ht,u,hset]
  ·cases h
 ·cases h
def P0 (P : Program) (hp : Hp) (t u : TypeId) (s x : Value) : Option (Value × Hp) :=
 match P.underlying t,P.underlying u with
 | some (.slice e), some (.int _) => match P.info? e with
  |none=>none
  | some ie => match ie.zero with
   |none=>none
   | some z => match s, x with
    | .slice (some ⟨i, o, none⟩) sLen sCap, .int _ (.ofNat cnt) =>
     bif cst z && Nat.beq z.cells.toList.length ie.size && Nat.ble ie.bytes 1048576 && Nat.ble 1 ie.size && Nat.ble 1 cnt && Nat.ble (sLen + cnt) 67108864 &&
       (Nat.ble unk sCap&&Nat.ble 1 (z7 sCap)&&Nat.ble (z7 sCap) (sLen+cnt))then
      match hp.m.get i with
      | some (.cells c k _ _) => bif Nat.ble (o + sLen * ie.size) k then
        match j3 c o (sLen*ie.size)with
        |some olds=>some (.slice (some ⟨hp.nx,0,none⟩) (sLen+cnt) (c7 (sLen+cnt) 0),hp.new (olds++xrep cnt z.cells.toList) e ie.size)
        |none=>none
       else none
      |_=>none
     else none
    |_,_=>none
 |_,_=>none
theorem aB1 {t u : TypeId} {s s':Value}   (h : P0 P hp t u s x = some (v, hp')) (hs : VR σ s s') (hx : VR σ x x') ( N : HR B w0 σ hp w) (ty : TypeId) :
  MOK hp B w0 σ v hp' ((Builtin.append_ #[t,u] ty #[s',x']).run P w):=by
 unfold P0 at h;split at h
 case h_2=>cases h
 rename_i e ik ht J;split at h
 ·cases h
 rename_i ie G;split at h
 ·cases h
 rename_i z hz;split at h
 case h_2=>cases h
 rename_i i o f n kq cnt;cases hb : cst z && Nat.beq z.cells.toList.length ie.size && Nat.ble ie.bytes 1048576 && Nat.ble 1 ie.size && Nat.ble 1 cnt && Nat.ble (   f + cnt) 67108864 &&
       (Nat.ble unk n&&Nat.ble 1 (z7 n)&&Nat.ble (z7 n) (f+cnt))with
 |false=>grind
 |true=>
 rw[hb,bG8]at h;simp only[bF2]at hb;obtain⟨⟨⟨⟨⟨⟨W,b2⟩,D⟩,Q⟩,R⟩,E⟩,⟨S,T⟩,U⟩:=hb;have V:z.cells.size=ie.size:=by simp_all
 have D:=bF5 D;have Q:=bF5 Q;have R:=bF5 R;have E:=bF5 E;have S:=bF5 S;have T:=bF5 T;have U:=bF5 U;split at h
 case h_2=>cases h
 rename_i c k e' z' Y;cases q:Nat.ble (o+f*ie.size) k with
 |false=>grind
 |true=>
 rw[q,bG8]at h;have q:=bF5 q;split at h
 case h_2=>cases h
 rename_i C H;cases h;cases hx;cases hs with
 |slice _ _ p _ _ c' I X Z=>
 have hlt:c'<f+cnt:=by grind
 obtain⟨g,L,l,F⟩:=N.cells Y q H I;have hr:=Lib.run_append_grow_zeros (P:=P) w t u ty e ie z kq ik ht J G hz (some ⟨p.blk,p.dl+o,none⟩) f c' g
  (run_firstCells_some w.drew ie.size f _ f c' g l (fun j u J=>(ac6 (w:=w) (w':=w.drew) rfl _).trans (F j u J))) cnt (by omega) (by omega) hlt (by omega)
  (by have:=Nat.mul_le_mul (show cnt<=67108864 by omega) D;omega) (growslice_fits hlt (by have:=Nat.mul_le_mul E D;omega))
 have O:(Builtin.zeroCells z.cells cnt).toList=xrep cnt z.cells.toList:=ad0 z.cells cnt;have M:VRL σ (xrep cnt z.cells.toList) (Builtin.zeroCells z.cells cnt).toList:=by rw[O];exact(M2 σ W).cells.xrep cnt
 have y:=L.append M;have hge:=grownCap_ge w (f+cnt) c' e;have A:=N.grown y (Builtin.zeroCells z.cells (grownCap w (f+cnt) c' e-(f+cnt))) (fill .e 0 (C++xrep cnt z.cells.toList)) (fun j hj=>y6 _ j hj) e ie.size
 have K:(g++(Builtin.zeroCells z.cells cnt).toList).length=(f+cnt)*ie.size:=by
  rw[bH8,l,Array.length_toList,size_zeroCells,V,bI7]
 rw[show(g++(Builtin.zeroCells z.cells cnt).toList).toArray=g.toArray++Builtin.zeroCells z.cells cnt by apply bN2;simp]at A
 refine⟨_,_,_,hr,N.le_new _,VR.unkSlice σ hp.nx ⟨w.heap.size,0,(g++(Builtin.zeroCells z.cells cnt).toList).length+(Builtin.zeroCells z.cells (grownCap w (f+cnt) c' e-(f+cnt))).size,ie.size⟩ rfl hge ?_,?_⟩
 ·show grownCap w (f+cnt) c' e*ie.size<=(g++(Builtin.zeroCells z.cells cnt).toList).length+_
  rw[size_zeroCells,K,V,<-bI7]
  grind
 ·simpa [Hp.new]using A
def bC2 (P:Program)(g:FuncId)(t:TypeId):Prop:=
 ∃fn r,P.funcs[g]? =some fn/\(fn.name== "runtime.NumGoroutine")=false/\fn.body.isNone=true/\Extern.findNext fn=none/\Extern.find fn=some (Extern.SlicesOverlaps.overlaps #[t,t] #[r])
def aW1 (P : Program) (hp : Hp) (t : TypeId) (args : List Value) : Option (Value × Hp) :=
 match P.underlying t with
 | some (.slice e) => match P.info? e with
  | some _ => match args with
   | [.slice (some ⟨i, _, none⟩) _ _, .slice (some ⟨j, _, none⟩) _ _] => bif Nat.beq i j then none else
     match hp.m.get i,hp.m.get j with
     |some (.cells _ _ _ _),some (.cells _ k _ _)=>bif Nat.ble 1 k then some (.bool false,hp)else none
     |_,_=>none
   |_=>none
  |none=>none
 |_=>none
def af4 :TypeId:=4294967295
def isT :Option TypeId->Bool
 |some t=>Nat.beq t af4
 |none=>false
def aX2 (P:Program)(g:FuncId):Prop:=∀w,Calls P g #[] w fun e w'=>e= .returned (.bool true)/\Below w.heap.size w w'
def Z8 (P:Program)(g:FuncId)(t:TypeId):Prop:=(t=af4/\aX2 P g)\/(t≠af4/\bC2 P g t)
theorem HR.below (h:HR B w0 σ hp w){w':World}(k:Below w.heap.size w w'):HR B w0 σ hp w':=by
 refine⟨k.os.trans h.os,k.tape.trans h.tape,k.output.trans h.output,bK9 h.size k.size,h.old,fun i hi=>?_,h.fresh,fun i b n=>?_,h.inj⟩
 ·rw[k.block i (bK4 (h.old i hi) h.size)];exact h.kept i hi
 ·obtain⟨p,o,g,j,f,l⟩:=h.live i b n
  exact⟨p,o,g,j,by rw[k.block p.blk (bG6.1 f).1];exact f,l⟩
theorem aW2 {g : FuncId} {t : TypeId} (ho : bC2 P g t) {args args' : List Value}   (h : aW1 P hp t args = some (v, hp')) ( W : VRL σ args args') ( L : HR B w0 σ hp w) :
  hp'=hp/\ ∃u,VR σ v u/\(callFunc g args'.toArray).run P w= .ok (.value u) w:=by
 unfold aW1 at h;split at h
 case h_2=>cases h
 rename_i e ht;split at h
 case h_2=>cases h
 rename_i ie I;split at h
 case h_2=>cases h
 rename_i i o1 l1 c1 j o2 l2 c2;cases f:Nat.beq i j with
 |true=>grind
 |false=>
 rw[f,bG9]at h;have s:i≠j:=fun e=>by rw[e,j9 rfl]at f;cases f
 split at h
 case h_2=>cases h
 rename_i ci ki N zi cj kj O zj l n;cases hk:Nat.ble 1 kj with
 |false=>grind
 |true=>
 rw[hk,bG8]at h;have hk:=bF5 hk;cases h;obtain⟨a1,r,rfl,G,hr⟩:=W.uncons;obtain⟨a2,r,rfl,H,hr⟩:=hr.uncons;rw[hr.unnil]at*;cases G with
 |slice _ _ p _ _ A y Y aa=>
 cases H with
 |slice _ _ q _ _ E z Z ab=>
 obtain⟨fn,rt,Q,R,S,T,U⟩:=ho;have J:p.blk≠q.blk:=L.inj i j _ _ p q l n s y z;refine⟨rfl,.bool false,.bool false,?_⟩;obtain⟨p',C,V,g2,g3,F,g5,g6,g7⟩:=L.liveC l;have:p'=p:=bH7 (V.symm.trans y);subst this;obtain⟨M,D,m1,m2,m3,m4,m5,m6,m7⟩:=L.liveC n;have:M=q:=bH7 (m1.symm.trans z);subst this;have K:∀w,(Go.sizeOf e).run P w= .ok ie.size w:=fun w=>by simp[sizeOf,typeInfo,I]
 rw[run_callFunc_extern Q R S T U];have X:=Lib.run_overlaps_apart (P:=P) w t rt e ht ie.size K ⟨p'.blk,p'.dl+o1,none⟩ ⟨M.blk,M.dl+o2,none⟩ l1 A l2 E J N O C.size D.size
  (by simp[World.shape?,F]) (by simp[World.shape?,m4]) (by omega) (by simp[World.frozen?,F]) (by simp[World.frozen?,F])
 simp_all
end
end Go.Xe
end PartXmC
noncomputable section PartXm10
namespace Go.Xe
open Go.RowKit
def R8 (tm:T Value):List (Nat×Operand)->Option (List (Nat×Value))
 | []=>some []
 | (i,x)::xs=>match a9 tm x with
  |some v=>match R8 tm xs with
   |some vs=>some ((i,v)::vs)
   |none=>none
  |none=>none
theorem ai1 {σ : Sg} {tm : T Value} {a : Act} : ∀ {xs : List (Nat × Operand)} {vs : List (Nat × Value)}, (∀ p ∈ xs, ∀ v, a9 tm p.2 = some v → VR σ v (a.eval p.2)) → R8 tm xs = some vs →
  PVR σ vs (xs.map fun p=>(p.1,a.eval p.2))
 | [],vs,_,hx=>by simp[R8]at hx;subst hx;exact⟨rfl,fun i x y h _=>by simp at h⟩
 | (i,x)::xs,vs,h,hx=>by
  simp only[R8]at hx;cases g:a9 tm x with
  |none=>grind
  |some v=>
   cases hr:R8 tm xs with
   |none=>grind
   |some r=>
    simp[g,hr]at hx;subst hx;have f:=ai1 (fun p hp=>h p (by simp[hp])) hr
    refine⟨by simp[f.1],fun j p q hp hq=>?_⟩
    cases j with
    |zero=>grind
    |succ j=>simp only[bG2,bK2]at hp hq;exact f.2 j p q hp hq
def ae8 (tm:T Value):Option Operand->Option (Option Value)
 |none=>some none
 |some x=>match a9 tm x with
  |some v=>some (some v)
  |none=>none
theorem am7 {σ:Sg}{tm:T Value}{a:Act}{x:Option Operand}(h:∀y,x=some y-> ∀v,a9 tm y=some v->VR σ v (a.eval y)){v:Option Value}(hx:ae8 tm x=some v):OVR σ v (x.map a.eval):=by
 cases x with
 |none=>simp only[ae8,bF1]at hx;subst hx;exact trivial
 |some x=>
  simp only[ae8]at hx;cases f:a9 tm x with
  |none=>grind
  |some u=>simp only[f,bF1]at hx;subst hx;exact h x rfl _ f
theorem am2 {σ:Sg}{tm:T Value}{a:Act}:∀ {xs:List Operand} {vs:List Value},(∀x∈xs,∀v,a9 tm x=some v->VR σ v (a.eval x))->ae7 tm xs=some vs->VRL σ vs (xs.map a.eval)
 | [],vs,_,hx=>by simp[ae7]at hx;subst hx;exact VRL.nil σ
 |x::xs,vs,h,hx=>by
  simp only[ae7]at hx;cases f:a9 tm x with
  |none=>grind
  |some v=>
   cases hr:ae7 tm xs with
   |none=>grind
   |some r=>simp[f,hr]at hx;subst hx;exact VRL.cons (h x (by simp) _ f) (am2 (fun y hy=>h y (by simp[hy])) hr)
def d7 (hp:Hp):Option Value->Option (Value×Hp)
 |some v=>some (v,hp)
 |none=>none
theorem f5 {hp hp':Hp}{x:Option Value}{v:Value}(h:d7 hp x=some (v,hp')):x=some v/\hp'=hp:=by
 cases x with
 |none=>cases h
 |some u=>simp only[d7,bF1,bF3]at h;exact⟨by rw[h.1],h.2.symm⟩
structure d8 where
 run:FuncId->List Value->Hp->Option (Value×Hp)
 ov:FuncId->Option TypeId
 round:Nat->List Value->Hp->Option (Value×Hp)
def ao3 (fn:Func):Bool:=fn.body.isSome&& !(fn.name== "runtime.NumGoroutine")
def t8 (P:Program)(hp:Hp)(b:Builtin)(ats:List TypeId)(args:List Value):Option (Value×Hp):=
 match b,ats,args with
 | .append,[t,u],[s,x]=>match v9 P hp t u s x with
  |some r=>some r
  |none=>P0 P hp t u s x
 | .clear,[t],[x]=>ap5 P hp t x
 | .copy,[t,_],[d,x]=>aI5 P hp t d x
 | .len,[t],[x]=>d7 hp (Q6 hp P t x)
 | .cap,[t],[x]=>d7 hp (am0 P t x)
 | .min,_,x::xs=>d7 hp (Y8 false x xs)
 | .max,_,x::xs=>d7 hp (Y8 true x xs)
 |_,_,_=>none
def aB3 (P : Program) (call : d8) (hp : Hp) (f : Value) (args : List Value) : Option (Value × Hp) :=
 match f with
 | .func (.func g) first captured => match P.funcs[g]? with
  | some fn => bif ao3 fn then call.run g (first.toList ++ args ++ captured.toList) hp else
    match call.ov g with
    |some t=>bif Nat.beq t af4 then none else aW1 P hp t (first.toList++args++captured.toList)
    |none=>none
  |none=>none
 | .chan (some i)=>call.round i args hp
 |_=>none
def xnw (P:Program)(tm:T Value)(o:Op):Option Nw:=
 match o with
 | .alloc e=>al9 P e
 | .box e x=>match a9 tm x with
  |some v=>some (aV1 e v)
  |none=>none
 | .buildSlice t len parts=>match R8 tm parts.toList with
  |some ps=>bn3 P t len ps
  |none=>none
 | .makeSlice t l c=>match a9 tm l with
  |some v=>match a9 tm c with
   |some u=>bo0 P t v u
   |none=>none
  |none=>none
 | .makeMap t r=>match ae8 tm r with
  |some v=>match P.underlying t with
   |some (.map _ _)=>bh9 v
   |_=>none
  |none=>none
 | .range t x=>match a9 tm x with
  |some v=>am8 P t v
  |none=>none
 |_=>none
def H2 (hp:Hp):Option Nw->Option (Value×Hp)
 |some n=>some (hp.add n)
 |none=>none
def oPick (tm:T Value)(hp:Hp)(c:Operand)(a:Operand)(b:Operand):Option (Value×Hp):=
 match a9 tm c with
  |some (.bool t)=>bif t then d7 hp (a9 tm a)else d7 hp (a9 tm b)
  |_=>none
def oNext (tm:T Value)(hp:Hp)(it:Operand)(isS:Bool):Option (Value×Hp):=
 match a9 tm it with
  |some v=>aC4 hp v isS
  |none=>none
def bA2 (P:Program)(tm:T Value)(hp:Hp)(t:TypeId)(x:Operand)(k:Operand)(ok:Bool):Option (Value×Hp):=
 match a9 tm x with
  |some v=>match a9 tm k with
   |some u=>d7 hp (B3 P hp t v u ok)
   |none=>none
  |none=>none
def ay6 (P:Program)(tm:T Value)(hp:Hp)(t:TypeId)(m:Operand)(k:Operand)(x:Operand):Option (Value×Hp):=
 match a9 tm m with
  |some mv=>match a9 tm k with
   |some kv=>match a9 tm x with
    |some xv=>match Q7 P hp t mv kv xv with
     |some hp'=>some (undef,hp')
     |none=>none
    |none=>none
   |none=>none
  |none=>none
def bk7 (P:Program)(tm:T Value)(hp:Hp)(t:TypeId)(m:Operand)(k:Operand):Option (Value×Hp):=
 match a9 tm m with
  |some mv=>match a9 tm k with
   |some kv=>E5 P hp t mv kv
   |none=>none
  |none=>none
def aR3 (tm:T Value)(hp:Hp)(m:Operand)(s:Operand)(x:Operand):Option (Value×Hp):=
 match a9 tm m with
  |some mv=>match a9 tm s with
   |some sv=>match a9 tm x with
    |some xv=>match H6 hp mv sv xv with
     |some hp'=>some (undef,hp')
     |none=>none
    |none=>none
   |none=>none
  |none=>none
def bD7 (P:Program)(tm:T Value)(hp:Hp)(t:TypeId)(parts:Array (Nat×Operand)):Option (Value×Hp):=
 match R8 tm parts.toList with
  |some ps=>d7 hp (ah5 P t ps)
  |none=>none
def oLoad (P:Program)(tm:T Value)(hp:Hp)(t:TypeId)(a:Operand):Option (Value×Hp):=
 match a9 tm a with
  |some v=>d7 hp (L8 P hp t v)
  |none=>none
def bE1 (P:Program)(tm:T Value)(hp:Hp)(t:TypeId)(a:Operand)(x:Operand):Option (Value×Hp):=
 match a9 tm a with
  |some v=>match a9 tm x with
   |some u=>match G9 P hp t v u with
    |some hp'=>some (undef,hp')
    |none=>none
   |none=>none
  |none=>none
def bk8 (tm:T Value)(hp:Hp)(x:Operand):Option (Value×Hp):=
 match a9 tm x with
  |some (.pointer (some p))=>some (.pointer (some p),hp)
  |some (.func (.func f) a b)=>some (.func (.func f) a b,hp)
  |_=>none
def bD6 (P:Program)(tm:T Value)(hp:Hp)(op:BinOp)(t:TypeId)(x:Operand)(y:Operand):Option (Value×Hp):=
 match a9 tm x with
  |some v=>match a9 tm y with
   |some u=>d7 hp (D7 P op t v u)
   |none=>none
  |none=>none
def oUnOp (tm:T Value)(hp:Hp)(op:UnOp)(x:Operand):Option (Value×Hp):=
 match a9 tm x with
  |some v=>d7 hp (xun op v)
  |none=>none
def bt4 (P:Program)(tm:T Value)(hp:Hp)(s:TypeId)(d:TypeId)(x:Operand):Option (Value×Hp):=
 match a9 tm x with
  |some v=>d7 hp (ac1 P s d v)
  |none=>none
def ay5 (P:Program)(tm:T Value)(hp:Hp)(t:TypeId)(x:Operand):Option (Value×Hp):=
 match a9 tm x with
  |some v=>d7 hp (ah9 P t v)
  |none=>none
def bk6 (tm:T Value)(hp:Hp)(fn:Fn)(first:Array Operand)(captured:Array Operand):Option (Value×Hp):=
 match ae7 tm first.toList with
  |some fs=>match ae7 tm captured.toList with
   |some cs=>some (.func fn fs.toArray cs.toArray,hp)
   |none=>none
  |none=>none
def bE0 (P:Program)(tm:T Value)(hp:Hp)(t:TypeId)(x:Operand)(lo:Option Operand)(hi:Option Operand)(mx:Option Operand):Option (Value×Hp):=
 match a9 tm x with
  |some v=>match ae8 tm lo with
   |some l=>match ae8 tm hi with
    |some h=>match ae8 tm mx with
     |some m=>j6 P hp t v l h m
     |none=>none
    |none=>none
   |none=>none
  |none=>none
def aZ2 (P:Program)(tm:T Value)(hp:Hp)(t:TypeId)(x:Operand)(f:Nat):Option (Value×Hp):=
 match a9 tm x with
  |some v=>d7 hp (G8 P t v f)
  |none=>none
def bD8 (P:Program)(tm:T Value)(hp:Hp)(t:TypeId)(x:Operand)(f:Nat):Option (Value×Hp):=
 match a9 tm x with
  |some v=>d7 hp (ah8 P t v f)
  |none=>none
def aZ3 (P:Program)(tm:T Value)(hp:Hp)(t:TypeId)(x:Operand)(i:Operand):Option (Value×Hp):=
 match a9 tm x with
  |some v=>match a9 tm i with
   |some u=>d7 hp (z5 P t v u)
   |none=>none
  |none=>none
def bD9 (P:Program)(tm:T Value)(hp:Hp)(t:TypeId)(x:Operand)(i:Operand):Option (Value×Hp):=
 match a9 tm x with
  |some v=>match a9 tm i with
   |some u=>d7 hp (ac4 P t v u)
   |none=>none
  |none=>none
def bt5 (tm:T Value)(hp:Hp)(x:Operand)(i:Nat):Option (Value×Hp):=
 match a9 tm x with
  |some v=>d7 hp (P1 v i)
  |none=>none
def oCall (P:Program)(call:d8)(tm:T Value)(hp:Hp)(c:Call):Option (Value×Hp):=
 match ae7 tm c.args.toList with
  |some args=>match c.callee with
   | .builtin b=>t8 P hp b c.argTypes.toList args
   | .value f=>match a9 tm f with
    |some v=>aB3 P call hp v args
    |none=>none
   |_=>none
  |none=>none
def xop (P:Program)(call:d8)(tm:T Value)(hp:Hp)(o:Op):Option (Value×Hp):=
 Op.rec (motive:=fun _=>Program->d8->T Value->Hp->Option (Value×Hp))
  (fun x _ _ tm hp=>d7 hp (a9 tm x))
  (fun x _ _ tm hp=>d7 hp (a9 tm x))
  (fun c a b _ _ tm hp=>oPick tm hp c a b)
  (fun e P _ tm hp=>H2 hp (xnw P tm (.alloc e)))
  (fun e x P _ tm hp=>H2 hp (xnw P tm (.box e x)))
  (fun t parts P _ tm hp=>bD7 P tm hp t parts)
  (fun t len parts P _ tm hp=>H2 hp (xnw P tm (.buildSlice t len parts)))
  (fun t m k x P _ tm hp=>ay6 P tm hp t m k x)
  (fun t a P _ tm hp=>oLoad P tm hp t a)
  (fun t a x P _ tm hp=>bE1 P tm hp t a x)
  (fun _ _ _ _ _=>none)
  (fun _ _ _ _ _=>none)
  (fun x _ _ tm hp=>bk8 tm hp x)
  (fun op t x y _ P _ tm hp=>bD6 P tm hp op t x y)
  (fun op _ x _ _ tm hp=>oUnOp tm hp op x)
  (fun s d x P _ tm hp=>bt4 P tm hp s d x)
  (fun _ _ _ _ _ _=>none)
  (fun t x P _ tm hp=>ay5 P tm hp t x)
  (fun fn first captured _ _ tm hp=>bk6 tm hp fn first captured)
  (fun t r P _ tm hp=>H2 hp (xnw P tm (.makeMap t r)))
  (fun _ _ _ _ _ _=>none)
  (fun t l c P _ tm hp=>H2 hp (xnw P tm (.makeSlice t l c)))
  (fun t x lo hi mx P _ tm hp=>bE0 P tm hp t x lo hi mx)
  (fun t x f P _ tm hp=>aZ2 P tm hp t x f)
  (fun t x f P _ tm hp=>bD8 P tm hp t x f)
  (fun t x i P _ tm hp=>aZ3 P tm hp t x i)
  (fun t x i P _ tm hp=>bD9 P tm hp t x i)
  (fun t x k ok P _ tm hp=>bA2 P tm hp t x k ok)
  (fun t m k x P _ tm hp=>ay6 P tm hp t m k x)
  (fun t m k P _ tm hp=>bk7 P tm hp t m k)
  (fun _ m s x _ _ tm hp=>aR3 tm hp m s x)
  (fun t x P _ tm hp=>H2 hp (xnw P tm (.range t x)))
  (fun it isS _ _ tm hp=>oNext tm hp it isS)
  (fun _ _ _ _ _=>none)
  (fun _ _ _ _ _ _ _ _=>none)
  (fun x i _ _ tm hp=>bt5 tm hp x i)
  (fun c P call tm hp=>oCall P call tm hp c)
  (fun _ _ _ _ _=>none)
  (fun _ _ _ _ _=>none)
  (fun _ _ _ _ _=>none)
  (fun _ _ _ _ _ _=>none)
  (fun _ _ _ _ _ _ _=>none)
  (fun _ _ _ _ _ _=>none)
  o P call tm hp
def g9 (P:Program)(call:d8)(tm:T Value)(hp:Hp)(o:Op):Option (Value×Hp):=
 match o with
 | .move x=>d7 hp (a9 tm x)
 | .assign x=>d7 hp (a9 tm x)
 | .pick c a b=>match a9 tm c with
  |some (.bool t)=>bif t then d7 hp (a9 tm a)else d7 hp (a9 tm b)
  |_=>none
 | .alloc e=>H2 hp (xnw P tm (.alloc e))
 | .box e x=>H2 hp (xnw P tm (.box e x))
 | .makeMap t r=>H2 hp (xnw P tm (.makeMap t r))
 | .range t x=>H2 hp (xnw P tm (.range t x))
 | .next it isS=>match a9 tm it with
  |some v=>aC4 hp v isS
  |none=>none
 | .lookup t x k ok=>match a9 tm x with
  |some v=>match a9 tm k with
   |some u=>d7 hp (B3 P hp t v u ok)
   |none=>none
  |none=>none
 | .mapEntry t m k=>match a9 tm m with
  |some mv=>match a9 tm k with
   |some kv=>E5 P hp t mv kv
   |none=>none
  |none=>none
 | .entryStore _ m s x=>match a9 tm m with
  |some mv=>match a9 tm s with
   |some sv=>match a9 tm x with
    |some xv=>match H6 hp mv sv xv with
     |some hp'=>some (undef,hp')
     |none=>none
    |none=>none
   |none=>none
  |none=>none
 | .mapUpdate t m k x=>match a9 tm m with
  |some mv=>match a9 tm k with
   |some kv=>match a9 tm x with
    |some xv=>match Q7 P hp t mv kv xv with
     |some hp'=>some (undef,hp')
     |none=>none
    |none=>none
   |none=>none
  |none=>none
 | .insert t m k x=>match a9 tm m with
  |some mv=>match a9 tm k with
   |some kv=>match a9 tm x with
    |some xv=>match Q7 P hp t mv kv xv with
     |some hp'=>some (undef,hp')
     |none=>none
    |none=>none
   |none=>none
  |none=>none
 | .build t parts=>match R8 tm parts.toList with
  |some ps=>d7 hp (ah5 P t ps)
  |none=>none
 | .buildSlice t len parts=>H2 hp (xnw P tm (.buildSlice t len parts))
 | .load t a=>match a9 tm a with
  |some v=>d7 hp (L8 P hp t v)
  |none=>none
 | .store t a x=>match a9 tm a with
  |some v=>match a9 tm x with
   |some u=>match G9 P hp t v u with
    |some hp'=>some (undef,hp')
    |none=>none
   |none=>none
  |none=>none
 | .nilCheck x=>match a9 tm x with
  |some (.pointer (some p))=>some (.pointer (some p),hp)
  |some (.func (.func f) a b)=>some (.func (.func f) a b,hp)
  |_=>none
 | .binOp op t x y _=>match a9 tm x with
  |some v=>match a9 tm y with
   |some u=>d7 hp (D7 P op t v u)
   |none=>none
  |none=>none
 | .unOp op _ x=>match a9 tm x with
  |some v=>d7 hp (xun op v)
  |none=>none
 | .convert s d x=>match a9 tm x with
  |some v=>d7 hp (ac1 P s d v)
  |none=>none
 | .makeInterface t x=>match a9 tm x with
  |some v=>d7 hp (ah9 P t v)
  |none=>none
 | .makeFunc fn first captured=>match ae7 tm first.toList with
  |some fs=>match ae7 tm captured.toList with
   |some cs=>some (.func fn fs.toArray cs.toArray,hp)
   |none=>none
  |none=>none
 | .makeSlice t l c=>H2 hp (xnw P tm (.makeSlice t l c))
 | .slice t x lo hi mx=>match a9 tm x with
  |some v=>match ae8 tm lo with
   |some l=>match ae8 tm hi with
    |some h=>match ae8 tm mx with
     |some m=>j6 P hp t v l h m
     |none=>none
    |none=>none
   |none=>none
  |none=>none
 | .fieldAddr t x f=>match a9 tm x with
  |some v=>d7 hp (G8 P t v f)
  |none=>none
 | .field t x f=>match a9 tm x with
  |some v=>d7 hp (ah8 P t v f)
  |none=>none
 | .indexAddr t x i=>match a9 tm x with
  |some v=>match a9 tm i with
   |some u=>d7 hp (z5 P t v u)
   |none=>none
  |none=>none
 | .index t x i=>match a9 tm x with
  |some v=>match a9 tm i with
   |some u=>d7 hp (ac4 P t v u)
   |none=>none
  |none=>none
 | .extract x i=>match a9 tm x with
  |some v=>d7 hp (P1 v i)
  |none=>none
 | .call c=>match ae7 tm c.args.toList with
  |some args=>match c.callee with
   | .builtin b=>t8 P hp b c.argTypes.toList args
   | .value f=>match a9 tm f with
    |some v=>aB3 P call hp v args
    |none=>none
   |_=>none
  |none=>none
 |_=>none
theorem b9 (P:Program)(call:d8)(tm:T Value)(hp:Hp)(o:Op):xop P call tm hp o=g9 P call tm hp o:=by cases o<;>rfl
def RF (r:Option Nat):Fence:= {Fence.wide with round:=r}
theorem d6 {P:Program}{r:Option Nat}{o:Oper}{a:Act}{w:World}{next:Act->World->Prop}{Q:Exit->Act->World->Prop}(g:∀c,o.op≠ .defer c)(h:o.wp P a w next Q):o.wpIn (RF r) 0 P a w next Q:=by
 have f:(RF r).depth.isSome=true->1<=0:=fun h=>by cases h
 refine⟨fun _ _=>trivial,?_⟩
 rw[Oper.semAt_eq _ _ _ g];unfold Oper.wp at h;generalize (execOp a.eval o).run P w=x at h;cases x with
 |ok n w'=>
  cases n<;>simp only[Oper.upon]at h<;>simp only[Oper.uponIn]<;>first
   |exact h
   |exact⟨f,(show CallsIn Fence.wide _ P _ _ _ _ from callsIn_wide.2 h)⟩
   |exact⟨f,fun c cs _=>let⟨v,w',r,s⟩:=h c cs;⟨v,w',r,(show StepsIn (Machine.fenced P Fence.wide) P _ _ from stepsIn_wide.2 s)⟩⟩
 |halt x w'=>cases x<;>simp only[Oper.upon]at h<;>simp only[Oper.uponIn]<;>exact h
structure C0 (P:Program)(call:d8):Prop where
 run:∀g args hp v hp',call.run g args hp=some (v,hp')-> ∀B w0 σ w args',VRL σ args args'->HR B w0 σ hp w->
  Calls P g args'.toArray w (fun e w'=>∃σ' u,e= .returned u/\Sg.gr hp.nx hp'.nx σ σ'/\VR σ' v u/\HR B w0 σ' hp' w')
 ov:∀g t,call.ov g=some t->Z8 P g t
 round:∀i args hp v hp',call.round i args hp=some (v,hp')-> ∀B w0 σ w args' p,σ i=some p->VRL σ args args'->HR B w0 σ hp w->
  ∃r,w.heap[p.blk]? =some (.loop r)/\args'.length=r.params.size/\
   RoundIn Fence.wide 0 P p.blk r.fn ((r.params.zip args'.toArray).foldl (fun tmps (t,a)=>tmps.setIfInBounds t a) r.tmps) r.assign r.body w (fun e w'=>∃σ' u,e= .returned u/\Sg.gr hp.nx hp'.nx σ σ'/\VR σ' v u/\HR B w0 σ' hp' w')
section
variable {P :Program}{B:BS}{w0:World}{σ:Sg}{hp:Hp}{w:World}
variable {v:Value}
theorem MOK.of_pure {u:Value}{s:Sem Value}(h1:VR σ v u)(h2:∀w,s.run P w= .ok u w)(f:HR B w0 σ hp w):MOK hp B w0 σ v hp (s.run P w):=
 ⟨σ,u,w,h2 w,Sg.gr_refl _ σ,h1,f⟩
theorem aB2 {b : Builtin} {ats : Array TypeId} {args : List Value} {args' : List Value}  {hp' : Hp} (h : t8 P hp b ats.toList args = some (v, hp'))
  (l:VRL σ args args') (j:HR B w0 σ hp w) (ty:TypeId) (cs:Array Bool):
  ∃σ' u w',(builtin b ats ty cs args'.toArray).run P w= .ok (.value u) w'/\Sg.gr hp.nx hp'.nx σ σ'/\VR σ' v u/\HR B w0 σ' hp' w':=by
 have   g : ∀ {s : Sem Value}, MOK hp B w0 σ v hp' (s.run P w) → builtin b ats ty cs args'.toArray = (do pure (.value (← s)) : Sem Next) →
   ∃σ' u w',(builtin b ats ty cs args'.toArray).run P w= .ok (.value u) w'/\Sg.gr hp.nx hp'.nx σ σ'/\VR σ' v u/\HR B w0 σ' hp' w':=by
  intro s hm he;obtain⟨σ',u,w',h1,h2,h3,h4⟩:=hm;refine⟨σ',u,w',?_,h2,h3,h4⟩
  simp_all
 unfold t8 at h;split at h
 ·rename_i t u s x f
  obtain⟨s',r,rfl,hs,hr⟩:=l.uncons;obtain⟨x',r,rfl,hx,hr⟩:=hr.uncons;rw[hr.unnil]at*;have:ats= #[t,u]:=by apply bN2;exact f
  subst this;split at h
  ·rename_i r n
   cases h;exact g (aE2 n hs hx j ty) rfl
  ·exact g (aB1 h hs hx j ty) rfl
 ·rename_i t x f
  obtain⟨x',r,rfl,hx,hr⟩:=l.uncons;rw[hr.unnil]at*;have:ats= #[t]:=by apply bN2;exact f
  subst this;exact g (aM7 h hx j ty) rfl
 ·rename_i t u d x f
  obtain⟨s',r,rfl,hs,hr⟩:=l.uncons;obtain⟨x',r,rfl,hx,hr⟩:=hr.uncons;rw[hr.unnil]at*;have:ats= #[t,u]:=by apply bN2;exact f
  subst this;exact g (aV5 h hs hx j ty) rfl
 ·rename_i t x f
  obtain⟨x',r,rfl,hx,hr⟩:=l.uncons;rw[hr.unnil]at*;obtain⟨i,rfl⟩:=f5 h;have:ats= #[t]:=by apply bN2;exact f
  subst this;obtain⟨h1,h2⟩:=aV7 (P:=P) i hx j ty #[t] rfl;exact g (s:=Builtin.len_ #[t] ty #[x']) ⟨σ,_,w,h2,Sg.gr_refl _ σ,h1,j⟩ rfl
 ·rename_i t x f
  obtain⟨x',r,rfl,hx,hr⟩:=l.uncons;rw[hr.unnil]at*;obtain⟨i,rfl⟩:=f5 h;have:ats= #[t]:=by apply bN2;exact f
  subst this;obtain⟨p,h1,h2⟩:=bc2 (P:=P) i hx ty #[t] rfl;exact g (MOK.of_pure h1 h2 j) rfl
 ·rename_i x xs
  obtain⟨x',r,rfl,hx,hr⟩:=l.uncons;obtain⟨i,rfl⟩:=f5 h;obtain⟨h1,h2⟩:=aC3 (P:=P) i hx hr;exact g (s:=Builtin.min_ ats ty (x'::r).toArray) (MOK.of_pure h1 h2 j) rfl
 ·rename_i x xs
  obtain⟨x',r,rfl,hx,hr⟩:=l.uncons;obtain⟨i,rfl⟩:=f5 h;obtain⟨h1,h2⟩:=aC2 (P:=P) i hx hr;exact g (s:=Builtin.max_ ats ty (x'::r).toArray) (MOK.of_pure h1 h2 j) rfl
 ·cases h
theorem W2 {g : FuncId} {fn : Func} {args : Array Value} (hf : P.funcs[g]? = some fn) ( f : ao3 fn = true) (w : World) :
  (callFunc g args).run P w= .ok (.enter g args) w:=by
 simp only[ao3,bF2,bJ7]at f;have hb:fn.body.isNone=false:=by simp_all
 simp only[callFunc,bI0,bP3,bH6,hf,f.2,hb,bM3,bO2,bI5]
variable {tm:T Value}
set_option maxHeartbeats 2000000 in
theorem aI8  {o : Oper} {n : Nw} (h : xnw P tm o.op = some n) {a : Act} (ht : ∀ x ∈ o.op.operands, ∀ v, a9 tm x = some v → VR σ v (a.eval x)) :
  ∃s:Sem Value,execOp a.eval o=(do pure (.value (<-s)):Sem Next)/\ai4 P σ n s:=by
 obtain⟨dst,op,type,pos,after,guard⟩:=o;cases op
 case alloc e=>exact⟨_,rfl,aE1 h⟩
 case box e x=>
  simp only[xnw]at h;split at h
  ·rename_i v q
   simp only[bF1]at h;subst h;exact⟨_,rfl,aV2 (ht x (by simp[Op.operands]) _ q)⟩
  ·cases h
 case buildSlice t len parts=>
  simp only[xnw]at h;split at h
  ·rename_i ps f
   have hp1:=ai1 (σ:=σ) (a:=a) (fun p hp=>ht p.2 (by simp only[Op.operands,List.mem_toArray];exact bN4.2 ⟨p,hp,rfl⟩)) f
   exact⟨_,rfl,bc1 (ys:=parts.map fun(i,x)=>(i,a.eval x)) h (by simpa using hp1)⟩
  ·cases h
 case makeSlice t l c=>
  simp only[xnw]at h;split at h
  ·rename_i lv hl
   split at h
   ·rename_i z hc
    exact⟨_,rfl,bc5 h (ht l (by simp[Op.operands]) _ hl) (ht c (by simp[Op.operands]) _ hc)⟩
   ·cases h
  ·cases h
 case makeMap t r=>
  simp only[xnw]at h;split at h
  ·rename_i u hr
   split at h
   ·rename_i kt A j
    have g:=am7 (σ:=σ) (a:=a) (fun y hy=>ht y (by subst hy;simp[Op.operands])) hr
    refine⟨_,rfl,aV8 h ?_ (by rw[j];exact trivial)⟩
    unfold OVR at g;cases u<;>cases r<;>simp_all
   ·cases h
  ·cases h
 case range t x=>
  simp only[xnw]at h;split at h
  ·rename_i C hx
   exact⟨_,rfl,aE4 h (ht x (by simp[Op.operands]) _ hx)⟩
  ·cases h
 all_goals (simp only[xnw,reduceCtorEq]at h)
set_option maxHeartbeats 2000000 in
theorem U6 {call : d8} (    G : C0 P call)  {o : Oper}  {hp' : Hp}
  (h:xop P call tm hp o.op=some (v,hp')) {a:Act} (ht:∀x∈o.op.operands,∀v,a9 tm x=some v->VR σ v (a.eval x)) (A:HR B w0 σ hp w) (next:Act->World->Prop) (Q:Exit->Act->World->Prop)
  (hn:∀σ' u w',Sg.gr hp.nx hp'.nx σ σ'->VR σ' v u->HR B w0 σ' hp' w'->next (a.put o.dst u) w') (r:Option Nat):o.wpIn (RF r) 0 P a w next Q:=by
 have val:∀ {s:Sem Value},MOK hp B w0 σ v hp' (s.run P w)->execOp a.eval o=(do pure (.value (<-s)):Sem Next)->o.wp P a w next Q:=by
  intro s hm he;obtain⟨σ',u,w',h1,h2,h3,h4⟩:=hm;unfold Oper.wp;rw[he];simp only[bI0,h1,bH6,bI5,bP0];exact hn σ' u w' h2 h3 h4
 have   E : ∀ {s : Sem Value} {x : Option Value}, d7 hp x = some (v, hp') → (x = some v → ∃ u, VR σ v u ∧ ∀ w, s.run P w = .ok u w) →
   execOp a.eval o=(do pure (.value (<-s)):Sem Next)->o.wp P a w next Q:=by
  intro s x hx hs he;obtain⟨D,rfl⟩:=f5 hx;obtain⟨u,h1,h2⟩:=hs D;exact val (MOK.of_pure h1 h2 A) he
 have I:∀(q:Op),H2 hp (xnw P tm q)=some (v,hp')->o.op=q->o.wp P a w next Q:=by
  intro q hx hq;cases U:xnw P tm q with
  |none=>rw[U]at hx;cases hx
  |some n=>
   rw[U]at hx;simp only[H2,bF1]at hx;obtain⟨s,h1,h2⟩:=aI8 (P:=P) (σ:=σ) (o:=o) (by rw[hq];exact U) ht
   have hm:=h2.mok A;rw[hx]at hm;exact val hm h1
 obtain⟨dst,op,type,pos,after,guard⟩:=o;cases op
 case move x=>
  refine d6 (fun _ h=>by cases h) ?_
  simp only[b9,g9]at h;obtain⟨D,rfl⟩:=f5 h;exact hn σ _ w (Sg.gr_refl _ σ) (ht _ (by simp[Op.operands]) _ D) A
 case assign x=>
  refine d6 (fun _ h=>by cases h) ?_
  simp only[b9,g9]at h;obtain⟨D,rfl⟩:=f5 h;exact hn σ _ w (Sg.gr_refl _ σ) (ht _ (by simp[Op.operands]) _ D) A
 case pick c x y=>
  refine d6 (fun _ h=>by cases h) ?_
  simp only[b9,g9]at h;split at h
  ·rename_i t hc
   have Y:=ht _ (by simp[Op.operands]) _ hc
   generalize X:a.eval c=cv at Y;cases Y;cases t with
   |true=>
    rw[bG8]at h;obtain⟨D,rfl⟩:=f5 h;unfold Oper.wp;simp only[execOp,X,asBool,bI0,bI5,bH6,bO3,bP0];exact hn σ _ w (Sg.gr_refl _ σ) (ht _ (by simp[Op.operands]) _ D) A
   |false=>
    rw[bG9]at h;obtain⟨D,rfl⟩:=f5 h;unfold Oper.wp;simp only[execOp,X,asBool,bI0,bI5,bH6,bM3,bO2,bP0];exact hn σ _ w (Sg.gr_refl _ σ) (ht _ (by simp[Op.operands]) _ D) A
  ·cases h
 case alloc e=>exact d6 (fun _ h=>by cases h) (I (.alloc e) h rfl)
 case box e x=>exact d6 (fun _ h=>by cases h) (I (.box e x) h rfl)
 case makeMap t r=>exact d6 (fun _ h=>by cases h) (I (.makeMap t r) h rfl)
 case range t x=>exact d6 (fun _ h=>by cases h) (I (.range t x) h rfl)
 case next it isS=>
  refine d6 (fun _ h=>by cases h) ?_
  simp only[b9,g9]at h;split at h
  ·rename_i F hx
   exact val (aV9 h (ht _ (by simp[Op.operands]) _ hx) A type) rfl
  ·cases h
 case lookup t x k ok=>
  refine d6 (fun _ h=>by cases h) ?_
  simp only[b9,g9]at h;split at h
  ·rename_i F hx
   split at h
   ·rename_i kv hk
    obtain⟨K,rfl⟩:=f5 h;obtain⟨u,h1,h2⟩:=aE3 K (ht _ (by simp[Op.operands]) _ hx) (ht _ (by simp[Op.operands]) _ hk) A
    exact val ⟨σ,u,w,h2,Sg.gr_refl _ σ,h1,A⟩ rfl
   ·cases h
  ·cases h
 case mapUpdate t m k x=>
  refine d6 (fun _ h=>by cases h) ?_
  simp only[b9,g9]at h;split at h
  ·rename_i mv hm
   split at h
   ·rename_i kv hk
    split at h
    ·rename_i F hx
     split at h
     ·rename_i V H
      simp only[bF1,bF3]at h;obtain⟨rfl,rfl⟩:=h;obtain⟨w',h1,h2,h3⟩:=af6 H (ht _ (by simp[Op.operands]) _ hm) (ht _ (by simp[Op.operands]) _ hk) (ht _ (by simp[Op.operands]) _ hx) A
      unfold Oper.wp;simp only[execOp,bI0,h1,bH6,bI5,Oper.upon_skip];exact hn σ undef w' (by rw[h3];exact Sg.gr_refl _ σ) (VR.undef σ) h2
     ·cases h
    ·cases h
   ·cases h
  ·cases h
 case mapEntry t m k=>
  refine d6 (fun _ h=>by cases h) ?_
  simp only[b9,g9]at h;split at h
  ·rename_i mv hm
   split at h
   ·rename_i kv hk
    exact val (au0 h (ht _ (by simp[Op.operands]) _ hm) (ht _ (by simp[Op.operands]) _ hk) A) rfl
   ·cases h
  ·cases h
 case entryStore t m s x=>
  refine d6 (fun _ h=>by cases h) ?_
  simp only[b9,g9]at h;split at h
  ·rename_i mv hm
   split at h
   ·rename_i sv ah
    split at h
    ·rename_i F hx
     split at h
     ·rename_i V H
      simp only[bF1,bF3]at h;obtain⟨rfl,rfl⟩:=h;obtain⟨w',h1,h2,h3⟩:=am1 (P:=P) (t:=t) H (ht _ (by simp[Op.operands]) _ hm) (ht _ (by simp[Op.operands]) _ ah) (ht _ (by simp[Op.operands]) _ hx) A
      unfold Oper.wp;simp only[execOp,bI0,h1,bH6,bI5,Oper.upon_skip];exact hn σ undef w' (by rw[h3];exact Sg.gr_refl _ σ) (VR.undef σ) h2
     ·cases h
    ·cases h
   ·cases h
  ·cases h
 case insert t m k x=>
  refine d6 (fun _ h=>by cases h) ?_
  simp only[b9,g9]at h;split at h
  ·rename_i mv hm
   split at h
   ·rename_i kv hk
    split at h
    ·rename_i F hx
     split at h
     ·rename_i V H
      simp only[bF1,bF3]at h;obtain⟨rfl,rfl⟩:=h;obtain⟨w',h1,h2,h3⟩:=af6 H (ht _ (by simp[Op.operands]) _ hm) (ht _ (by simp[Op.operands]) _ hk) (ht _ (by simp[Op.operands]) _ hx) A
      unfold Oper.wp;simp only[execOp,bI0,h1,bH6,bI5,Oper.upon_skip];exact hn σ undef w' (by rw[h3];exact Sg.gr_refl _ σ) (VR.undef σ) h2
     ·cases h
    ·cases h
   ·cases h
  ·cases h
 case build t parts=>
  refine d6 (fun _ h=>by cases h) ?_
  simp only[b9,g9]at h;split at h
  ·rename_i ps ae
   have hp1:=ai1 (fun p hp=>ht p.2 (by simp only[Op.operands,List.mem_toArray];exact bN4.2 ⟨p,hp,rfl⟩)) ae
   exact E h (fun hx=>aM6 (ys:=parts.map fun(i,x)=>(i,a.eval x)) hx (by simpa using hp1)) rfl
  ·cases h
 case buildSlice t len parts=>exact d6 (fun _ h=>by cases h) (I (.buildSlice t len parts) h rfl)
 case load t x=>
  refine d6 (fun _ h=>by cases h) ?_
  simp only[b9,g9]at h;split at h
  ·rename_i F hx
   obtain⟨K,rfl⟩:=f5 h;obtain⟨u,h1,h2⟩:=as4 K (ht _ (by simp[Op.operands]) _ hx) A
   exact val ⟨σ,u,w,h2,Sg.gr_refl _ σ,h1,A⟩ rfl
  ·cases h
 case store t x y=>
  refine d6 (fun _ h=>by cases h) ?_
  simp only[b9,g9]at h;split at h
  ·rename_i F hx
   split at h
   ·rename_i yv hy
    split at h
    ·rename_i V H
     simp only[bF1,bF3]at h;obtain⟨rfl,rfl⟩:=h;obtain⟨w',h1,h2,h3⟩:=aN9 H (ht _ (by simp[Op.operands]) _ hx) (ht _ (by simp[Op.operands]) _ hy) A
     unfold Oper.wp;simp only[execOp,bI0,h1,bH6,bI5,Oper.upon_skip];exact hn σ undef w' (by rw[h3];exact Sg.gr_refl _ σ) (VR.undef σ) h2
    ·cases h
   ·cases h
  ·cases h
 case nilCheck x=>
  refine d6 (fun _ h=>by cases h) ?_
  simp only[b9,g9]at h;split at h
  ·rename_i p hx
   simp only[bF1,bF3]at h;obtain⟨rfl,rfl⟩:=h;have hv:=ht _ (by simp[Op.operands]) _ hx
   generalize W:a.eval x=F at hv;cases hv with
   |ptr i o q hq=>
   unfold Oper.wp;simp only[execOp,W,bI5,bP0];exact hn σ _ w (Sg.gr_refl _ σ) (.ptr i o q hq) A
  ·rename_i f fa fb hx
   simp only[bF1,bF3]at h;obtain⟨rfl,rfl⟩:=h;have hv:=ht _ (by simp[Op.operands]) _ hx
   generalize W:a.eval x=F at hv;cases hv with
   |func _ _ ys _ ds h1 h2 h3 h4=>
   unfold Oper.wp;simp only[execOp,W,bI5,bP0];exact hn σ _ w (Sg.gr_refl _ σ) (.func _ _ ys _ ds h1 h2 h3 h4) A
  ·cases h
 case binOp op t x y yt=>
  refine d6 (fun _ h=>by cases h) ?_
  simp only[b9,g9]at h;split at h
  ·rename_i F hx
   split at h
   ·rename_i yv hy
    obtain⟨K,rfl⟩:=f5 h;obtain⟨u0,h1,h2⟩:=aU7 (P:=P) K (ht _ (by simp[Op.operands]) _ hx) (ht _ (by simp[Op.operands]) _ hy) x y
    unfold Oper.wp;simp only[execOp,bI0,(h2 w).1,(h2 w).2,bH6,bI5,bP0];exact hn σ _ w (Sg.gr_refl _ σ) h1 A
   ·cases h
  ·cases h
 case unOp op t x=>
  refine d6 (fun _ h=>by cases h) ?_
  simp only[b9,g9]at h;split at h
  ·rename_i F hx
   exact E h (fun hh=>⟨_,bo4 hh (ht _ (by simp[Op.operands]) _ hx)⟩) rfl
  ·cases h
 case convert s d x=>
  refine d6 (fun _ h=>by cases h) ?_
  simp only[b9,g9]at h;split at h
  ·rename_i F hx
   exact E h (fun hh=>aV4 hh (ht _ (by simp[Op.operands]) _ hx)) rfl
  ·cases h
 case makeInterface t x=>
  refine d6 (fun _ h=>by cases h) ?_
  simp only[b9,g9]at h;split at h
  ·rename_i F hx
   exact E h (fun hh=>aN0 hh (ht _ (by simp[Op.operands]) _ hx)) rfl
  ·cases h
 case makeFunc fn first z=>
  refine d6 (fun _ h=>by cases h) ?_
  simp only[b9,g9]at h;split at h
  ·rename_i fs ac
   split at h
   ·rename_i cs aa
    simp only[bF1,bF3]at h;obtain⟨rfl,rfl⟩:=h;have v1:=am2 (fun y hy=>ht y (by simp only[Op.operands,Array.mem_append];exact .inl (by simpa using hy))) ac
    have v2:=am2 (fun y hy=>ht y (by simp only[Op.operands,Array.mem_append];exact .inr (by simpa using hy))) aa
    refine hn σ (.func fn (first.map a.eval) (z.map a.eval)) w (Sg.gr_refl _ σ) (.func _ _ _ _ _ ?_ ?_ ?_ ?_) A
    ·have:=v1.1;simpa using this
    ·intro i x y h1 h2;exact v1.2 i x y (by simpa using h1) (by simpa using h2)
    ·have:=v2.1;simpa using this
    ·intro i x y h1 h2;exact v2.2 i x y (by simpa using h1) (by simpa using h2)
   ·cases h
  ·cases h
 case makeSlice t l c=>exact d6 (fun _ h=>by cases h) (I (.makeSlice t l c) h rfl)
 case slice t x lo hi mx=>
  refine d6 (fun _ h=>by cases h) ?_
  simp only[b9,g9]at h;split at h
  ·rename_i F hx
   split at h
   ·rename_i l hl
    split at h
    ·rename_i hh ad
     split at h
     ·rename_i m hm
      exact val (aN5 h (ht _ (by simp[Op.operands]) _ hx) (am7 (fun y hy=>ht y (by subst hy;simp[Op.operands])) hl) (am7 (fun y hy=>ht y (by subst hy;simp[Op.operands])) ad) (am7 (fun y hy=>ht y (by subst hy;simp[Op.operands])) hm) A) rfl
     ·cases h
    ·cases h
   ·cases h
  ·cases h
 case fieldAddr t x f=>
  refine d6 (fun _ h=>by cases h) ?_
  simp only[b9,g9]at h;split at h
  ·rename_i F hx
   exact E h (fun hh=>ap9 hh (ht _ (by simp[Op.operands]) _ hx)) rfl
  ·cases h
 case field t x f=>
  refine d6 (fun _ h=>by cases h) ?_
  simp only[b9,g9]at h;split at h
  ·rename_i F hx
   exact E h (fun hh=>aM9 hh (ht _ (by simp[Op.operands]) _ hx)) rfl
  ·cases h
 case indexAddr t x i=>
  refine d6 (fun _ h=>by cases h) ?_
  simp only[b9,g9]at h;split at h
  ·rename_i F hx
   split at h
   ·rename_i iv hi
    exact E h (fun hh=>aq0 hh (ht _ (by simp[Op.operands]) _ hx) (ht _ (by simp[Op.operands]) _ hi)) rfl
   ·cases h
  ·cases h
 case index t x i=>
  refine d6 (fun _ h=>by cases h) ?_
  simp only[b9,g9]at h;split at h
  ·rename_i F hx
   split at h
   ·rename_i iv hi
    exact E h (fun hh=>aN1 hh (ht _ (by simp[Op.operands]) _ hx) (ht _ (by simp[Op.operands]) _ hi)) rfl
   ·cases h
  ·cases h
 case extract x i=>
  refine d6 (fun _ h=>by cases h) ?_
  simp only[b9,g9]at h;split at h
  ·rename_i F hx
   exact E h (fun hh=>aB6 hh (ht _ (by simp[Op.operands]) _ hx)) rfl
  ·cases h
 case call c=>
  simp only[b9,g9]at h;obtain⟨N,j,J⟩:=c;split at h
  ·rename_i args S
   have O:=am2 (fun y hy=>ht y (by simp only[Op.operands,Call.operands,Array.mem_append];exact .inr (by simpa using hy))) S
   cases N with
   |invoke r m=>simp only[reduceCtorEq]at h
   |builtin b=>
    refine d6 (fun _ h=>by cases h) ?_
    simp only at h;obtain⟨σ',u,w',h1,h2,h3,h4⟩:=aB2 (ty:=type) (cs:=j.map fun| .const _=>true|_=>false) h O A
    unfold Oper.wp;have C:(j.toList.map a.eval).toArray=j.map a.eval:=by apply bN2;simp
    rw[C]at h1;have L:(execOp a.eval ⟨dst,.call ⟨.builtin b,j,J⟩,type,pos,after,guard⟩).run P w= .ok (.value u) w':=by
     simp only[execOp,resolve,invoke,bI0,bI5,bH6];exact h1
    rw[L];exact hn σ' u w' h2 h3 h4
   |value f=>
    simp only at h;split at h
    ·rename_i fv hf
     have R:=ht _ (by simp[Op.operands,Call.operands]) _ hf
     unfold aB3 at h;split at h
     ·rename_i g first z
      refine d6 (fun _ h=>by cases h) ?_
      generalize T:a.eval f=fe at R;cases R with
      |func _ _ ys _ ds q1 q2 q3 q4=>
      split at h
      ·rename_i fn ab
       have vf:VRL σ first.toList ys.toList:=⟨by simpa using q1,fun i x y h1 h2=>q2 i x y (by simpa using h1) (by simpa using h2)⟩
       have vc:VRL σ z.toList ds.toList:=⟨by simpa using q3,fun i x y h1 h2=>q4 i x y (by simpa using h1) (by simpa using h2)⟩
       have C:(ys.toList++j.toList.map a.eval++ds.toList).toArray=ys++j.map a.eval++ds:=by apply bN2;simp
       have M:(execOp a.eval ⟨dst,.call ⟨.value f,j,J⟩,type,pos,after,guard⟩).run P w=(callFunc g (ys++j.map a.eval++ds)).run P w:=by
        simp only[execOp,resolve,T,Deferred.ofValue,invoke,bI0,bI5,bH6]
       cases ho:ao3 fn with
       |false=>
        rw[ho,bG9]at h;split at h
        ·rename_i t0 ai
         have Z:t0≠af4:=fun e=>by rw[e,j9 rfl]at h;cases h
         rw[m8 Z,bG9]at h;obtain⟨rfl,u,h1,h2⟩:=aW2 ((G.ov g t0 ai).resolve_left fun e=>Z e.1).2 h ((vf.append O).append vc) A
         rw[C]at h2;unfold Oper.wp;rw[M,h2,bP0];exact hn σ u w (Sg.gr_refl _ σ) h1 A
        ·cases h
       |true=>
        rw[ho,bG8]at h;have hc:=G.run g _ hp v hp' h B w0 σ w _ ((vf.append O).append vc) A;rw[C]at hc;unfold Oper.wp;rw[M,W2 ab ho w,Oper.upon_enter];refine hc.mono fun e w' he=>?_
        obtain⟨σ',u,rfl,h2,h3,h4⟩:=he;exact hn σ' u w' h2 h3 h4
      ·cases h
     ·rename_i i
      generalize T:a.eval f=fe at R;cases R with
      |yield _ p hp0=>
      obtain⟨aj,k1,k2,k3⟩:=G.round i args hp v hp' h B w0 σ w _ p hp0 O A;have C:(j.toList.map a.eval).toArray=j.map a.eval:=by apply bN2;simp
      have L:(execOp a.eval ⟨dst,.call ⟨.value f,j,J⟩,type,pos,after,guard⟩).run P w=(Instr.yield p.blk (j.map a.eval)).run P w:=by
       simp only[execOp,resolve,T,Deferred.ofValue,invoke,bI0,bI5,bH6]
       congr 2
       simp
      refine⟨fun _ _=>trivial,?_⟩
      rw[Oper.semAt_eq _ _ _ (fun _ h=>by cases h),L,run_yield k1 (by rw[<-k2];simp),Oper.uponIn_round]
      refine⟨(fun h=>by cases h),?_⟩
      rw[C]at k3;refine(show RoundIn (RF r) _ P _ _ _ _ _ _ _ from k3).mono fun e w' he=>?_
      obtain⟨σ',u,rfl,h2,h3,h4⟩:=he;exact hn σ' u w' h2 h3 h4
     ·cases h
    ·cases h
  ·cases h
 all_goals (simp only[b9,g9,reduceCtorEq]at h)
end
end Go.Xe
end PartXm10
noncomputable section PartXm11
namespace Go.Xe
open Go.RowKit
def Y0 (ops:List Oper)(tm:T Value)(j:Nat):Option Bool:=
 match ops[j]? with
 |some o=>match o.dst with
  |some d=>match tm.get d with
   |some (.bool b)=>some b
   |_=>none
  |none=>none
 |none=>none
def j2 (ops:List Oper)(tm:T Value)(o:Oper):Bool:=
 match o.guard with
 |none=>true
 |some (j,want)=>match Y0 ops tm j with
  |some b=>b==want
  |none=>false
variable {σ:Sg}{nt:Nat}{tm:T Value}
theorem aD1    {tmps : Array Value} (h : TR σ nt tm tmps) (ops : Array Oper) (o : Oper) :
  Region.wanted o (yielded ops tmps)=j2 ops.toList tm o:=by
 unfold Region.wanted j2;cases o.guard with
 |none=>rfl
 |some l=>
  obtain⟨j,i⟩:=l;simp only;have hy:yielded ops tmps j=Y0 ops.toList tm j:=by
   unfold yielded Y0;rw[Array.getElem?_toList];cases hj:ops[j]? with
   |none=>rfl
   |some p=>
    simp only[Option.bind_some];cases n:p.dst with
    |none=>rfl
    |some d=>
     simp only[Option.bind_some];have:=h.at_ d
     by_cases hlt:d<tmps.size
     ·have e:tmps[d]? =some tmps[d]:=by simp[hlt]
      have g:tmps.getD d undef=tmps[d]:=by simp_all
      rw[g]at this;rw[e];cases f:tm.get d with
      |none=>
       rw[f,Option.getD_none]at this;generalize tmps[d]=x at this;cases this;rfl
      |some v=>
       rw[f,bJ3]at this;generalize tmps[d]=x at this;cases this<;>rfl
     ·have e:tmps[d]? =none:=Array.getElem?_eq_none (bM9 hlt)
      have g:tmps.getD d undef=undef:=by grind
      rw[g]at this;rw[e];cases f:tm.get d with
      |none=>rfl
      |some v=>
       rw[f,bJ3]at this;unfold undef at this;cases this;rfl
  grind
def q9 (tm:T Value)(dst:Option Tmp)(v:Value):T Value:=
 match dst with
 |some d=>tm.set d (some v)
 |none=>tm
def u7 (nt:Nat)(dst:Option Tmp):Bool:=
 match dst with
 |some d=>Nat.blt d nt
 |none=>true
theorem TR.putO    {a : Act} (h : TR σ nt tm a.tmps) {dst : Option Tmp} ( f : u7 nt dst = true) {v u : Value} ( g : VR σ v u) :
  TR σ nt (q9 tm dst v) (a.put dst u).tmps:=by
 cases dst with
 |none=>exact h
 |some d=>exact h.put (bF5 f) g
def bx5 (ih:T Value->Hp->Option (T Value×Hp))(tm:T Value)(dst:Option Tmp)(r:Option (Value×Hp)):Option (T Value×Hp):=
 Option.rec (motive:=fun _=>Option (T Value×Hp)) none (fun p=>Prod.rec (motive:=fun _=>Option (T Value×Hp)) (fun v hp=>(q9 tm dst v).force fun tm'=>ih tm' hp) p) r
def xone (P:Program)(call:d8)(nt:Nat)(all:List Oper)(o:Oper)(ih:T Value->Hp->Option (T Value×Hp))(tm:T Value)(hp:Hp):Option (T Value×Hp):=
 bif u7 nt o.dst then
  bif j2 all tm o then bx5 ih tm o.dst (xop P call tm hp o.op)
  else(q9 tm o.dst undef).force fun tm'=>ih tm' hp
 else none
def aC6 (P:Program)(call:d8)(nt:Nat)(all:List Oper)(l:List Oper):T Value->Hp->Option (T Value×Hp):=
 List.rec (motive:=fun _=>T Value->Hp->Option (T Value×Hp)) (fun tm hp=>some (tm,hp)) (fun o _ ih tm hp=>xone P call nt all o ih tm hp) l
variable {P:Program}{call:d8}{all:List Oper}{hp:Hp}
theorem aC7 :aC6 P call nt all [] tm hp=some (tm,hp):=rfl
theorem N8    {rest:List Oper} {o : Oper}   :
  aC6 P call nt all (o::rest) tm hp=bif u7 nt o.dst then
   bif j2 all tm o then
    match xop P call tm hp o.op with
    |some (v,hp')=>aC6 P call nt all rest (q9 tm o.dst v) hp'
    |none=>none
   else aC6 P call nt all rest (q9 tm o.dst undef) hp
  else none:=by
 show xone P call nt all o (aC6 P call nt all rest) tm hp=_;unfold xone;cases xop P call tm hp o.op with
 |none=>simp only[T.force_eq,bx5]
 |some r=>obtain⟨v,hp'⟩:=r;simp only[T.force_eq,bx5]
def Y9 (n:Nat)(B:BS)(w0:World)(σ:Sg)(nt:Nat)(e:Exit)(tm:T Value)(hp:Hp)(D:List Deferred):Exit->Act->World->Prop:=
 fun e' a' w'=>e'=e/\a'.defers=D/\ ∃σ',Sg.gr n hp.nx σ σ'/\TR σ' nt tm a'.tmps/\HR B w0 σ' hp w'
variable {w' w0:World}{σ':Sg}
theorem Y9.le {B : BS}   {n  g : Nat} (h : Sg.gr n  g σ σ')  {e : Exit}   {D : List Deferred} {e' : Exit} {a' : Act}  (hp' : Y9  g B w0 σ' nt e tm hp D e' a' w') :
  Y9 n B w0 σ nt e tm hp D e' a' w':=by
 obtain⟨h1,h2,f,h3,h4,i⟩:=hp';exact⟨h1,h2,f,Sg.gr_trans h h3,h4,i⟩
variable {r:Option Nat}
theorem L4 {ops:Array Oper}{Q p:Exit->Act->World->Prop}(hq:∀e a w,Q e a w->p e a w):∀(l:List Nat) {a:Act} {w:World},wpOpsIn (RF r) 0 P ops Q l a w->wpOpsIn (RF r) 0 P ops p l a w:=by
 have f:LetsOut Q->LetsOut p:=fun⟨a,w,h⟩=>⟨a,w,hq _ _ _ h⟩
 intro l
 induction l with
 |nil=>intro a w h;exact hq _ _ _ h
 |cons i rest j=>
  intro a w h;simp only[wpOpsIn]at h⊢;cases q:ops[i]? with
  |none=>grind
  |some o=>
   simp only[q]at h;simp only;split
   ·rename_i s
    simp only[s,bO3]at h;unfold Oper.wpIn at h⊢;refine⟨h.1,?_⟩
    replace h:=h.2
    generalize (o.semAt (RF r).round a.eval).run P w=x at h⊢;cases x with
    |ok n w'=>
     cases n<;>simp only[Oper.uponIn]at h⊢ <;>first
      |exact j h
      | (refine⟨h.1,CallsIn.mono h.2 fun e g he=>?_⟩;cases e<;>first|exact j he|exact hq _ _ _ he|exact f he)
      |exact⟨h.1,RowsIn.mono h.2 fun v g he=>j he⟩
      | (refine⟨h.1,RoundIn.mono h.2 fun e g he=>?_⟩;cases e<;>first|exact j he|exact hq _ _ _ he|exact f he)
    |halt x w'=>cases x<;>simp only[Oper.uponIn]at h⊢ <;>exact hq _ _ _ h
   ·grind
theorem R4 {P:Program}{F:Fence}{k:Nat}{c:Code}{Q f:Exit->Act->World->Prop}(hq:∀e a w,Q e a w->f e a w):∀ {n:Nat} {a:Act} {w:World},Code.roundsIn F k P c Q n a w->Code.roundsIn F k P c f n a w
 |0,_,_,h=>h.elim
 |n+1,_,_,h=>bP8 h fun e a w he=>by
  cases e with
  |normal=>exact R4 hq he
  |_=>exact hq _ _ _ he
section
variable {P :Program}{B:BS}{w0:World}{call:d8}
theorem TR.ER {σ:Sg}{nt:Nat}{tm:T Value}{a:Act}(h:TR σ nt tm a.tmps)(xs:Array Operand):∀x∈xs,∀v,a9 tm x=some v->VR σ v (a.eval x):=
 fun _ _ _ f=>U5 h f
theorem K4 (a:Act)(dst:Option Tmp)(v:Value):(a.put dst v).defers=a.defers:=by cases dst<;>rfl
theorem bc6 (    g : C0 P call) {nt : Nat} (ops : Array Oper) (r : Option Nat) : ∀ (l : List Oper) (k : Nat) (tm : T Value) (hp : Hp) (tm' : T Value) (hp' : Hp) (σ : Sg) (a : Act) (w : World),
  (∀j,l[j]? =ops[k+j]?)->aC6 P call nt ops.toList l tm hp=some (tm',hp')->TR σ nt tm a.tmps->HR B w0 σ hp w-> ∀D,a.defers=D->
  wpOpsIn (RF r) 0 P ops (Y9 hp.nx B w0 σ nt .normal tm' hp' D) (List.range' k l.length) a w:=by
 intro l
 induction l with
 |nil=>
  intro k tm hp tm' hp' σ a w _ h ht s D q;simp only[aC7,bF1,bF3]at h;obtain⟨rfl,rfl⟩:=h;exact⟨rfl,q,σ,Sg.gr_refl _ σ,ht,s⟩
 |cons o l z=>
  intro k tm hp tm' hp' σ a w hl h ht s D q;have A:ops[k]? =some o:=by simpa using(hl 0).symm
  have i:∀j,l[j]? =ops[k+1+j]? :=fun j=>by have:=hl (j+1);simpa [bL1,Nat.add_comm 1 j]using this
  rw[N8]at h;simp only[bJ4,List.range'_succ,wpOpsIn,A];cases f:u7 nt o.dst with
  |false=>grind
  |true=>
   rw[f,bG8]at h;rw[aD1 ht ops o];cases p:j2 ops.toList tm o with
   |true=>
    rw[p,bG8]at h;rw[bH3 rfl];split at h
    ·rename_i v hp1 hx
     refine U6 g hx (ht.ER _) s _ _ (fun σ' u w' n C t=>?_) r
     have y:=z (k+1) _ hp1 tm' hp' σ' (a.put o.dst u) w' i h ((ht.mono n.le).putO f C) t D (by rw[K4];exact q)
     exact L4 (fun e a' w' hq=>Y9.le n hq) _ y
    ·cases h
   |false=>
    rw[p,bG9]at h;rw[bH1 (by simp)]
    exact⟨fun _ _=>trivial,z (k+1) _ hp tm' hp' σ _ w i h (ht.putO f (VR.undef σ)) s D (by rw[K4];exact q)⟩
end
inductive Df where
 |mark (r:Nat)
 |call (g:FuncId) (args cap:List Value)
def DfR (σ:Sg):Df->Deferred->Prop
 | .mark r,d=>∃p,σ r=some p/\d.target= .collected p.blk
 | .call g args cap,d=>∃cap',d.target= .fn (.func g) cap'/\VRL σ args d.args.toList/\VRL σ cap cap'.toList
def DsR (σ:Sg):List Df->List Deferred->Prop
 | [],[]=>True
 |x::xs,d::ds=>DfR σ x d/\DsR σ xs ds
 |_,_=>False
theorem DfR.mono (hs:Sg.le σ σ'){x:Df}{d:Deferred}(h:DfR σ x d):DfR σ' x d:=by
 cases x with
 |mark r=>obtain⟨p,h1,h2⟩:=h;exact⟨p,hs _ _ h1,h2⟩
 |call g args cap=>obtain⟨c,h1,h2,h3⟩:=h;exact⟨c,h1,h2.mono hs,h3.mono hs⟩
theorem DsR.mono (hs:Sg.le σ σ'):∀ {xs:List Df} {ds:List Deferred},DsR σ xs ds->DsR σ' xs ds
 | [],[],_=>trivial
 |_::_,_::_,h=>⟨h.1.mono hs,DsR.mono hs h.2⟩
 | [],_::_,h=>h.elim
 |_::_,[],h=>h.elim
def ArR (σ:Sg):Option Nat->Option Nat->Prop
 |none,none=>True
 |some j,some b=>∃p,σ j=some p/\p.blk=b
 |_,_=>False
theorem ArR.mono (hs:Sg.le σ σ'){ar:Option Nat}(h:ArR σ ar r):ArR σ' ar r:=by
 cases ar<;>cases r<;>first|exact h| (obtain⟨p,h1,h2⟩:=h;exact⟨p,hs _ _ h1,h2⟩)
inductive XR where
 |mk (e:Exit) (tm:T Value) (hp:Hp) (ds:List Df)
abbrev G4:=d8->Nat->List Oper->T Value->Hp->Option (T Value×Hp)
def V0 (P:Program)(dr:G4):Prop:=
 ∀call,C0 P call-> ∀nt (ops:Array Oper) id tm hp tm' hp',dr call nt ops.toList tm hp=some (tm',hp')-> ∀B w0 σ a w,TR σ nt tm a.tmps->HR B w0 σ hp w-> ∀r,
  (Code.region id ops true).wpIn (RF r) 0 P (Y9 hp.nx B w0 σ nt .normal tm' hp' a.defers) a w
def aC8 (R:Option (Value×Hp))(l:Nat)(tm:T Value)(ds:List Df):Option XR:=
 match R with
 |some (_,hp)=>match hp.m.get l with
  |some (.loop .ready pend _ _ _ _ _ _)=>match pend with
   |none=>some (.mk .normal tm {hp with m:=hp.m.set l none} ds)
   |some _=>none
  |some (.loop .done pend _ _ _ _ _ _)=>match pend with
   |some .ret=>some (.mk .ret tm {hp with m:=hp.m.set l none} ds)
   |some (.exit id)=>some (.mk (.exit id) tm {hp with m:=hp.m.set l none} ds)
   |_=>none
  |_=>none
 |none=>none
def X8 (P : Program) (call : d8) (nt : Nat) (ar : Option Nat) (f : Operand) (ps : Array Tmp) (assign body : Code) (tm : T Value) (hp : Hp) (ds : List Df) : Option XR :=
 match a9 tm f with
 | some (.func (.func g) first captured) => match P.funcs[g]? with
  | some fn => bif ao3 fn then
    match ar with
    |none=>aC8 (call.run g (first.toList++ [.chan (some (hp.nx+1))]++captured.toList) ⟨(hp.m.set hp.nx (some .dfr)).set (hp.nx+1) (some (.loop .ready none nt tm ps assign body hp.nx)),hp.nx+2⟩) (hp.nx+1) tm (.mark hp.nx::ds)
    |some j=>match hp.m.get j with
     |some (.loop _ _ _ _ _ _ _ db)=>aC8 (call.run g (first.toList++ [.chan (some hp.nx)]++captured.toList) ⟨hp.m.set hp.nx (some (.loop .ready none nt tm ps assign body db)),hp.nx+1⟩) hp.nx tm ds
     |_=>none
   else none
  |none=>none
 |_=>none
def bc3 (tm:T Value)(c:Call):Option Df:=
 match c.callee with
 | .value f=>match a9 tm f with
  |some (.func (.func g) first captured)=>match ae7 tm c.args.toList with
   |some args=>some (.call g (first.toList++args) captured.toList)
   |none=>none
  |_=>none
 |_=>none
def aJ4 :Op->Option Call
 | .defer c=>some c
 |_=>none
def af7 (P:Program)(call:d8)(nt:Nat)(all:List Oper):List Oper->T Value->Hp->List Df->Option (T Value×Hp×List Df)
 | [],tm,hp,ds=>some (tm,hp,ds)
 |o::rest,tm,hp,ds=>
  bif u7 nt o.dst then
   bif j2 all tm o then
    match aJ4 o.op with
    |some c=>match bc3 tm c with
     |some d=>af7 P call nt all rest (q9 tm o.dst undef) hp (d::ds)
     |none=>none
    |none=>match xop P call tm hp o.op with
     |some (v,hp')=>af7 P call nt all rest (q9 tm o.dst v) hp' ds
     |none=>none
   else af7 P call nt all rest (q9 tm o.dst undef) hp ds
  else none
def bi0 (P:Program)(call:d8)(nt:Nat)(ar:Option Nat)(ops:List Oper)(draw:Bool)(tm:T Value)(hp:Hp)(ds:List Df):Option XR:=
 match ar with
 |some _=>none
 |none=>bif draw then none else match af7 P call nt ops ops tm hp ds with
  |some (tm',hp',ds')=>some (.mk .normal tm' hp' ds')
  |none=>none
def f6 (P:Program)(dr:G4)(call:d8)(nt:Nat)(ar:Option Nat):Nat->Code->T Value->Hp->List Df->Option XR
 |0,_,_,_,_=>none
 |m+1,c,tm,hp,ds=>match c with
  | .skip=>some (.mk .normal tm hp ds)
  | .label _=>some (.mk .normal tm hp ds)
  | .region _ ops draw=>match(bif draw then dr call nt ops.toList tm hp else aC6 P call nt ops.toList ops.toList tm hp)with
   |some (tm',hp')=>some (.mk .normal tm' hp' ds)
   |none=>bi0 P call nt ar ops.toList draw tm hp ds
  | .seq x y=>match f6 P dr call nt ar m x tm hp ds with
   |some (.mk .normal tm' hp' ds')=>f6 P dr call nt ar m y tm' hp' ds'
   |r=>r
  | .cond c x y=>match a9 tm c with
   |some (.bool true)=>f6 P dr call nt ar m x tm hp ds
   |some (.bool false)=>f6 P dr call nt ar m y tm hp ds
   |_=>none
  | .block id b=>match f6 P dr call nt ar m b tm hp ds with
   |some (.mk (.exit j) tm' hp' ds')=>bif Nat.beq j id then some (.mk .normal tm' hp' ds')else some (.mk (.exit j) tm' hp' ds')
   |r=>r
  | .loop b=>match f6 P dr call nt ar m b tm hp ds with
   |some (.mk .normal tm' hp' ds')=>f6 P dr call nt ar m (.loop b) tm' hp' ds'
   |r=>r
  | .exit id=>some (.mk (.exit id) tm hp ds)
  | .ret=>some (.mk .ret tm hp ds)
  | .scope b=>match f6 P dr call nt ar m b tm hp ds with
   |some (.mk .normal tm' hp' ds')=>some (.mk .normal tm' hp' ds')
   |some (.mk (.exit j) tm' hp' ds')=>some (.mk (.exit j) tm' hp' ds')
   |some (.mk .ret tm' hp' ds')=>some (.mk .ret tm' hp' ds')
   |_=>none
  | .rangeFunc f ps assign body=>X8 P call nt ar f ps assign body tm hp ds
  |_=>none
def F6 (n:Nat)(B:BS)(w0:World)(σ:Sg)(nt:Nat)(e:Exit)(tm:T Value)(hp:Hp)(ds:List Df):Exit->Act->World->Prop:=
 fun e' a' w'=>e'=e/\ ∃σ',Sg.gr n hp.nx σ σ'/\DsR σ' ds a'.defers/\TR σ' nt tm a'.tmps/\HR B w0 σ' hp w'
theorem F6.le {B : BS}   {n  g : Nat} (h : Sg.gr n  g σ σ')  {e : Exit}   {ds : List Df} {e' : Exit} {a' : Act}  (hp' : F6  g B w0 σ' nt e tm hp ds e' a' w') :
  F6 n B w0 σ nt e tm hp ds e' a' w':=by
 obtain⟨h1,f,h3,h2,h4,i⟩:=hp';exact⟨h1,f,Sg.gr_trans h h3,h2,h4,i⟩
section
variable {P :Program}{B:BS}{w0:World}{call:d8}{dr:G4}
variable {b:Frame}{a:Act}{k:List Item}{cs:List Frame}{w:World}{c:Code}
theorem H5 :step P (lone (b.atR a (.code (.scope c)::k)) cs w)= .next (lone (b.atR a (.code c:: .inScope c::k)) cs w):=
 step_lone_go (by simp[stepG,stepG.exec,Frame.atR])
theorem aD9 :step P (lone (b.atR a (.inScope c::k)) cs w)= .next (lone (b.atR a k) cs w):=
 step_lone_go (by simp[stepG,stepG.exec,Frame.atR])
theorem M7 {F:Fence}{n:Nat}{Q:Exit->Act->World->Prop}(h:c.wpIn F n P (Exit.noGoto Q) a w):(Code.scope c).wpIn F n P Q a w:=by
 intro b k cs q hb hr;have h0:(lone (b.atR a (.code (.scope c)::k)) cs w).fenced P F:=fenced_calm hb hr rfl;obtain⟨e,g,i,hq,f⟩:=h b (.inScope c::k) cs q hb hr;cases e with
 |normal=>exact⟨.normal,g,i,hq,.head h0 H5 (StepsIn.trans f (.one (fenced_calm hb hr rfl) aD9))⟩
 |exit s=>
  have hx:exitTo s (.inScope c::k)=exitTo s k:=by simp[exitTo]
  exact⟨.exit s,g,i,hq,fun k' hk=>.head h0 H5 (f.1 k' (by rw[hx];exact hk)),
   fun p hk=>let⟨j,h1,h2⟩:=f.2 p (by rw[hx];exact hk);⟨j,h1,.head h0 H5 h2⟩⟩
 |goto l=>exact hq.elim
 |ret=>exact⟨_,g,i,hq,.of_steps (.one h0 H5) f⟩
 |panic t=>exact⟨_,g,i,hq,.of_steps (.one h0 H5) f⟩
 |outgrown=>exact⟨_,g,i,hq,.of_steps (.one h0 H5) f⟩
variable {σ:Sg}{hp:Hp}
theorem HR.less (h:HR B w0 σ hp w){m:T Blk}(hm:∀i b,m.get i=some b->hp.m.get i=some b):HR B w0 σ ⟨m,hp.nx⟩ w:=
 ⟨h.os,h.tape,h.output,h.size,h.old,h.kept,h.fresh,fun i b f=>h.live i b (hm _ _ f),
  fun i j b b' p q hi hj=>h.inj i j b b' p q (hm _ _ hi) (hm _ _ hj)⟩
theorem HR.drop (h:HR B w0 σ hp w)(l:Nat):HR B w0 σ {hp with m:=hp.m.set l none} w:=by
 refine h.less fun i b f=>?_
 have f:(hp.m.set l none).get i=some b:=f;rw[T.get_set]at f
 grind
variable {tm tm':T Value}{ds ds':List Df}{e:Exit}{hp':Hp}{nt:Nat}
theorem am9 (    C : C0 P call) {g l : Nat} {xs : List Value}        (h : aC8 (call.run g xs hp) l tm ds = some (.mk e tm' hp' ds'))
   {p:Pl} (hl:σ l=some p) {ys:List Value} (Q:VRL σ xs ys) (R:HR B w0 σ hp w) (ht:TR σ nt tm a.tmps) (K:DsR σ ds a.defers) (r:Option Nat) (k:Nat):
  CallsIn (RF r) k P g ys.toArray w (rangePost (RF r) 0 P p.blk (F6 hp.nx B w0 σ nt e tm' hp' ds') a):=by
 unfold aC8 at h;split at h
 ·rename_i v hp1 hx
  have hc:=C.run g xs hp v hp1 hx B w0 σ w ys Q R;refine(show CallsIn (RF r) k P g ys.toArray w _ from(callsIn_wide (n:=k)).2 hc).mono fun e' O he=>?_
  obtain ⟨z,u,rfl,gr,_,G⟩:=he;have L:=gr.le _ _ hl;have    A : ∀ st pend   t    f   y   j   q   s, hp1.m.get l = some (.loop st pend   t    f   y   j   q   s) → st ≠ .busy →
    ∃D,(Instr.endLoop p.blk).run P O= .ok pend D/\HR B w0 z {hp1 with m:=hp1.m.set l none} D:=by
   intro st pend t f y j q s E N;obtain⟨p',o,q1,q2,X,Y⟩:=G.live l _ E;have:p'=p:=bH7 (q1.symm.trans L);subst this;obtain⟨H,rfl,k1,k2,k3,S,U,V,W⟩:=Y;refine⟨O.putObj p'.blk (.loop {H with state:= .exhausted}),?_,?_⟩
   ·rw[run_endLoop X (by rw[k1];exact N),k2]
   ·have hs:=HR.setO (b':= .loop .exhausted pend t f y j q s) G E q1 (o:= .loop {H with state:= .exhausted}) ⟨_,rfl,rfl,k2,k3,S,U,V,W⟩
    have M:=HR.drop hs l;refine M.less fun i b hi=>?_
    have hi:(hp1.m.set l none).get i=some b:=hi;show((hp1.m.set l (some _)).set l none).get i=some b;rw[T.get_set]at hi⊢
    by_cases F:i=l
    ·grind
    ·rw[bH1 F]at hi⊢
     rw[T.get_set,bH1 F];exact hi
  split at h
  ·rename_i pend t f y j q s E
   obtain⟨D,I,J⟩:=A _ _ _ _ _ _ _ _ E (by simp)
   split at h
   ·simp only[bF1,XR.mk.injEq]at h
    obtain⟨rfl,rfl,rfl,rfl⟩:=h;exact⟨_,D,I,rfl,z,gr,K.mono gr.le,ht.mono gr.le,J⟩
   ·cases h
  ·rename_i pend t f y j q s E
   obtain⟨D,I,J⟩:=A _ _ _ _ _ _ _ _ E (by simp)
   split at h
   ·simp only[bF1,XR.mk.injEq]at h
    obtain⟨rfl,rfl,rfl,rfl⟩:=h;exact⟨_,D,I,wpIn_ret ⟨rfl,z,gr,K.mono gr.le,ht.mono gr.le,J⟩⟩
   ·simp only[bF1,XR.mk.injEq]at h
    obtain⟨rfl,rfl,rfl,rfl⟩:=h;exact⟨_,D,I,wpIn_exit ⟨rfl,z,gr,K.mono gr.le,ht.mono gr.le,J⟩⟩
   ·cases h
  ·cases h
 ·cases h
variable {ar r:Option Nat}
theorem aq2 (    A : C0 P call)   {f : Operand} {ps : Array Tmp} {assign body : Code}       
  (h:X8 P call nt ar f ps assign body tm hp ds=some (.mk e tm' hp' ds')) (ht:TR σ nt tm a.tmps) (G:HR B w0 σ hp w) (T:DsR σ ds a.defers) (F:ArR σ ar r):
  (Code.rangeFunc f ps assign body).wpIn (RF r) 0 P (F6 hp.nx B w0 σ nt e tm' hp' ds') a w:=by
 unfold X8 at h;split at h
 ·rename_i g first t hf
  have H:=U5 ht hf;generalize K:a.eval f=fe at H;cases H with
  |func _ _ ys _ cs q1 q2 q3 q4=>
  have W:VRL σ first.toList ys.toList:=⟨by simpa using q1,fun i x y h1 h2=>q2 i x y (by simpa using h1) (by simpa using h2)⟩
  have vc:VRL σ t.toList cs.toList:=⟨by simpa using q3,fun i x y h1 h2=>q4 i x y (by simpa using h1) (by simpa using h2)⟩
  split at h
  ·rename_i fn L
   cases M:ao3 fn with
   |false=>rw[M]at h;cases h
   |true=>
    rw[M,bG8]at h;have E:∀l w,(resolve a.eval (rangeCall f l) 0).run P w= .ok {target:= .fn (.func g) cs,args:=ys++ #[Value.func (.yield l) #[] #[]]} w:=by
     intro l w;simp only[resolve,K,Deferred.ofValue,List.map_toArray,bK2,List.map_nil];rfl
    have D:∀l w,(invoke (.fn (.func g) cs) (ys++ #[Value.func (.yield l) #[] #[]])).run P w= .ok (.enter g (ys.toList++ [Value.func (.yield l) #[] #[]]++cs.toList).toArray) w:=by
     intro l w;have:(ys.toList++ [Value.func (.yield l) #[] #[]]++cs.toList).toArray=ys++ #[Value.func (.yield l) #[] #[]]++cs:=by apply bN2;simp
     rw[this];exact W2 L M w
    split at h
    ·cases r with
     |some b=>exact F.elim
     |none=>
      refine wpIn_rangeFunc fun z _=>?_
      let C:Pl:=⟨w.heap.size,0,0,0⟩
      let p1:Pl:=⟨w.heap.size+1,0,0,0⟩
      have n0:σ hp.nx=none:=G.fresh _ (bH4 _);have U:(σ.ext hp.nx C) (hp.nx+1)=none:=by rw[Sg.ext_other _ _ _ (by omega)];exact G.fresh _ (by omega)
      have h1:=G.allocO hp.nx (hp.nx+1) n0 (bM6 _) (bL2 _) .dfr (.deferred (some [])) C rfl rfl;have u:Sg.gr hp.nx (hp.nx+1) σ (σ.ext hp.nx C):=⟨Sg.le_ext C n0,fun i hi=>Sg.ext_other _ _ _ (by omega),bM6 _⟩
      have S:Sg.gr (hp.nx+1) (hp.nx+2) (σ.ext hp.nx C) ((σ.ext hp.nx C).ext (hp.nx+1) p1):=⟨Sg.le_ext p1 U,fun i hi=>Sg.ext_other _ _ _ (by omega),bM6 _⟩
      have n:=Sg.gr_trans u S;have e0:((σ.ext hp.nx C).ext (hp.nx+1) p1) hp.nx=some C:=S.le _ _ (Sg.ext_same _ _ _);have h2:=h1.allocO (hp.nx+1) (hp.nx+2) U (bM6 _) (bL2 _) (.loop .ready none nt tm ps assign body hp.nx)
       (.loop {state:= .ready,pending:=none,fn:=z,tmps:=a.tmps,params:=ps,assign,body,defers:=w.heap.size}) p1 (by simp[p1])
       ⟨_,rfl,rfl,rfl,rfl,rfl,rfl,⟨ht.size,fun k=>(ht.at_ k).mono n.le⟩,C,e0,rfl⟩
      refine⟨_,_,_,_,_,_,_,_,run_enterLoop_outer z a.tmps ps assign body,E _ _,fun _ _=>trivial,D _ _,fun h=>(by cases h),?_⟩
      have hs:=am9 (B:=B) (w0:=w0) A h (p:=p1) (Sg.ext_same _ _ _) ((W.mono n.le).append (VRL.cons (.yield (hp.nx+1) p1 (Sg.ext_same _ _ _)) (VRL.nil _))|>.append (vc.mono n.le)) h2
       (a:= {a with defers:=[{target:= .collected w.heap.size,args:= #[]}]++a.defers}) (ht.mono n.le) ⟨⟨C,e0,rfl⟩,T.mono n.le⟩ none (0-1)
      refine hs.mono fun e' w' he=>?_
      cases e' with
      |returned v=>
       obtain⟨s,Q,k1,k2⟩:=he;refine⟨s,Q,k1,?_⟩;cases s with
       |none=>exact F6.le n k2
       |some c=>exact bP8 k2 fun e a w hq=>F6.le n hq
      |panicked chain=>exact F6.le n he
      |outgrown=>obtain⟨J,R,hq⟩:=he;exact⟨J,R,F6.le n hq⟩
    ·rename_i j
     cases r with
     |none=>exact F.elim
     |some b=>
      obtain⟨pj,hj,rfl⟩:=F;split at h
      ·rename_i ac N aa V ab X Y db Z
       obtain⟨I,o,u1,u2,u3,u4⟩:=G.live j _ Z;have:I=pj:=bH7 (u1.symm.trans hj);subst this;obtain⟨O,rfl,k1,k2,k3,k4,k5,k6,q,k7,k8⟩:=u4;refine wpIn_rangeFunc fun z _=>?_
       let p1:Pl:=⟨w.heap.size,0,0,0⟩
       have n0:σ hp.nx=none:=G.fresh _ (bH4 _);have u:Sg.gr hp.nx (hp.nx+1) σ (σ.ext hp.nx p1):=⟨Sg.le_ext p1 n0,fun i hi=>Sg.ext_other _ _ _ (by omega),bM6 _⟩
       have h2:=G.allocO hp.nx (hp.nx+1) n0 (bM6 _) (bL2 _) (.loop .ready none nt tm ps assign body db)
        (.loop {state:= .ready,pending:=none,fn:=z,tmps:=a.tmps,params:=ps,assign,body,defers:=O.defers}) p1 rfl
        ⟨_,rfl,rfl,rfl,rfl,rfl,rfl,⟨ht.size,fun k=>(ht.at_ k).mono u.le⟩,q,u.le _ _ k7,k8⟩
       refine⟨_,_,_,_,_,_,_,_,run_enterLoop_inner u3 z a.tmps ps assign body,E _ _,fun _ _=>trivial,D _ _,fun h=>(by cases h),?_⟩
       have hs:=am9 (B:=B) (w0:=w0) A h (p:=p1) (Sg.ext_same _ _ _) ((W.mono u.le).append (VRL.cons (.yield hp.nx p1 (Sg.ext_same _ _ _)) (VRL.nil _))|>.append (vc.mono u.le)) h2
        (a:= {a with defers:=[]++a.defers}) (ht.mono u.le) (T.mono u.le) (some I.blk) (0-1)
       refine hs.mono fun e' w' he=>?_
       cases e' with
       |returned v=>
        obtain⟨s,Q,k1,k2⟩:=he;refine⟨s,Q,k1,?_⟩;cases s with
        |none=>exact F6.le u k2
        |some c=>exact bP8 k2 fun e a w hq=>F6.le u hq
       |panicked chain=>exact F6.le u he
       |outgrown=>obtain⟨J,R,hq⟩:=he;exact⟨J,R,F6.le u hq⟩
      ·cases h
  ·cases h
 ·cases h
theorem aM8    {c : Call} {d : Df} (h : bc3 tm c = some d)  (ht : TR σ nt tm a.tmps) (ty : TypeId) (w : World) :
  ∃u,(resolve a.eval c ty).run P w= .ok u w/\DfR σ d u:=by
 obtain⟨n,j,t⟩:=c;unfold bc3 at h;cases n with
 |builtin b=>cases h
 |invoke r m=>cases h
 |value f=>
  simp only at h;split at h
  ·rename_i g first l hf
   have q:=U5 ht hf;generalize s:a.eval f=F at q;cases q with
   |func _ _ ys _ cs q1 q2 A C=>
   split at h
   ·rename_i args p
    cases h;have E:VRL σ first.toList ys.toList:=⟨by simpa using q1,fun i x y h1 h2=>q2 i x y (by simpa using h1) (by simpa using h2)⟩
    have vc:VRL σ l.toList cs.toList:=⟨by simpa using A,fun i x y h1 h2=>C i x y (by simpa using h1) (by simpa using h2)⟩
    have D:=am2 (fun y _ v z=>U5 ht z) p
    refine⟨{target:= .fn (.func g) cs,args:=ys++j.map a.eval},?_,cs,rfl,?_,vc⟩
    ·simp only[resolve,s,Deferred.ofValue]
     rfl
    ·have:(ys++j.map a.eval).toList=ys.toList++j.toList.map a.eval:=by simp
     rw[this];exact E.append D
   ·cases h
  ·cases h
theorem aW0 (    g : C0 P call)  (ops : Array Oper) : ∀ (l : List Oper) (k : Nat) (tm : T Value) (hp : Hp) (ds : List Df) (tm' : T Value) (hp' : Hp) (ds' : List Df) (σ : Sg) (a : Act) (w : World),
  (∀j,l[j]? =ops[k+j]?)->af7 P call nt ops.toList l tm hp ds=some (tm',hp',ds')->TR σ nt tm a.tmps->HR B w0 σ hp w->DsR σ ds a.defers->
  wpOpsIn (RF none) 0 P ops (F6 hp.nx B w0 σ nt .normal tm' hp' ds') (List.range' k l.length) a w:=by
 intro l
 induction l with
 |nil=>
  intro k tm hp ds tm' hp' ds' σ a w _ h ht s p;simp only[af7,bF1,bF3]at h;obtain⟨rfl,rfl,rfl⟩:=h;exact⟨rfl,σ,Sg.gr_refl _ σ,p,ht,s⟩
 |cons o l A=>
  intro k tm hp ds tm' hp' ds' σ a w hl h ht s p;have E:ops[k]? =some o:=by simpa using(hl 0).symm
  have i:∀j,l[j]? =ops[k+1+j]? :=fun j=>by have:=hl (j+1);simpa [bL1,Nat.add_comm 1 j]using this
  simp only[af7]at h;simp only[bJ4,List.range'_succ,wpOpsIn,E];cases f:u7 nt o.dst with
  |false=>grind
  |true=>
   rw[f,bG8]at h;rw[aD1 ht ops o];cases t:j2 ops.toList tm o with
   |true=>
    rw[t,bG8]at h;rw[bH3 rfl];split at h
    ·rename_i c hc
     split at h
     ·rename_i d y
      obtain⟨D,h1,h2⟩:=aM8 (P:=P) y ht o.type w;have F:o.op= .defer c:=by
       unfold aJ4 at hc
       grind
      refine⟨fun _ _=>trivial,?_⟩
      have q:(o.semAt (RF none).round a.eval).run P w= .ok (.defer D) w:=by
       show(o.semAt none a.eval).run P w=_;rw[Oper.semAt_none];unfold execOp
       simp_all
      rw[q,Oper.uponIn_defer];exact A (k+1) _ hp (d::ds) tm' hp' ds' σ _ w i h (TR.putO (a:= {a with defers:=D::a.defers}) ht f (VR.undef σ)) s (by rw[K4];exact⟨h2,p⟩)
     ·cases h
    ·split at h
     ·rename_i v hp1 hx
      refine U6 g hx (ht.ER _) s _ _ (fun σ' u w' n G z=>?_) none
      have C:=A (k+1) _ hp1 ds tm' hp' ds' σ' (a.put o.dst u) w' i h ((ht.mono n.le).putO f G) z (by rw[K4];exact p.mono n.le)
      exact L4 (fun e a' w' hq=>F6.le n hq) _ C
     ·cases h
   |false=>
    rw[t,bG9]at h;rw[bH1 (by simp)]
    exact⟨fun _ _=>trivial,A (k+1) _ hp ds tm' hp' ds' σ _ w i h (ht.putO f (VR.undef σ)) s (by rw[K4];exact p)⟩
theorem as5 (    f : C0 P call)   {ops : Array Oper} {draw : Bool} { p : Nat}       
  (h:bi0 P call nt ar ops.toList draw tm hp ds=some (.mk e tm' hp' ds')) (ht:TR σ nt tm a.tmps) (n:HR B w0 σ hp w) (l:DsR σ ds a.defers) (g:ArR σ ar r):
  (Code.region p ops draw).wpIn (RF r) 0 P (F6 hp.nx B w0 σ nt e tm' hp' ds') a w:=by
 cases ar with
 |some j=>cases h
 |none=>
  cases r with
  |some b=>exact g.elim
  |none=>
   cases draw with
   |true=>cases h
   |false=>
    simp only[bi0,bG9]at h;split at h
    ·rename_i tm1 hp1 i hx
     cases h;refine wpIn_region ?_;have:=aW0 (B:=B) (w0:=w0) f ops ops.toList 0 tm hp ds _ _ _ σ a w (by simp) hx ht n l
     rw[List.range_eq_range']
     grind
    ·cases h
theorem L7 (    t : C0 P call) (  L : V0 P dr)   : ∀ (m : Nat),
  (∀(c:Code) (tm:T Value) (hp:Hp) (ds:List Df) (e:Exit) (tm':T Value) (hp':Hp) (ds':List Df) (σ:Sg) (a:Act) (w:World) (r:Option Nat),f6 P dr call nt ar m c tm hp ds=some (.mk e tm' hp' ds')->TR σ nt tm a.tmps->HR B w0 σ hp w->DsR σ ds a.defers->ArR σ ar r->
   c.wpIn (RF r) 0 P (F6 hp.nx B w0 σ nt e tm' hp' ds') a w)/\
  (∀(c:Code) (tm:T Value) (hp:Hp) (ds:List Df) (e:Exit) (tm':T Value) (hp':Hp) (ds':List Df) (σ:Sg) (a:Act) (w:World) (r:Option Nat),f6 P dr call nt ar m (.loop c) tm hp ds=some (.mk e tm' hp' ds')->TR σ nt tm a.tmps->HR B w0 σ hp w->DsR σ ds a.defers->ArR σ ar r->
   Code.roundsIn (RF r) 0 P c (F6 hp.nx B w0 σ nt e tm' hp' ds') m a w):=by
 intro m
 induction m with
 |zero=>exact⟨fun c tm hp ds e tm' hp' ds' σ a w r h=>(by simp[f6]at h),fun c tm hp ds e tm' hp' ds' σ a w r h=>(by simp[f6]at h)⟩
 | succ m  O =>
  obtain ⟨C,M⟩:=O;have     E : ∀ (c : Code) (tm : T Value) (hp : Hp) (ds : List Df) (e : Exit) (tm' : T Value) (hp' : Hp) (ds' : List Df) (σ : Sg) (a : Act) (w : World) (r : Option Nat), f6 P dr call nt ar (m + 1) (.loop c) tm hp ds = some (.mk e tm' hp' ds') → TR σ nt tm a.tmps → HR B w0 σ hp w → DsR σ ds a.defers → ArR σ ar r →
    Code.roundsIn (RF r) 0 P c (F6 hp.nx B w0 σ nt e tm' hp' ds') (m+1) a w:=by
   intro c tm hp ds e tm' hp' ds' σ a w r h ht A z q;simp only[f6]at h;rw[roundsIn_succ];cases hb:f6 P dr call nt ar m c tm hp ds with
   |none=>grind
   |some I=>
    obtain⟨G,tm1,hp1,u⟩:=I;refine bP8 (C c tm hp ds G tm1 hp1 u σ a w r hb ht A z q) fun e' a' w' hq=>?_
    obtain⟨rfl,σ',g,i,n,p⟩:=hq;cases e' with
    |normal=>
     simp only[hb]at h;exact R4 (fun e a w hq=>F6.le g hq) (M c tm1 hp1 u e tm' hp' ds' σ' a' w' r h n p i (q.mono g.le))
    |exit F=>simp only[hb,bF1,XR.mk.injEq]at h;obtain⟨rfl,rfl,rfl,rfl⟩:=h;exact⟨rfl,σ',g,i,n,p⟩
    |goto F=>simp only[hb,bF1,XR.mk.injEq]at h;obtain⟨rfl,rfl,rfl,rfl⟩:=h;exact⟨rfl,σ',g,i,n,p⟩
    |ret=>simp only[hb,bF1,XR.mk.injEq]at h;obtain⟨rfl,rfl,rfl,rfl⟩:=h;exact⟨rfl,σ',g,i,n,p⟩
    |panic J=>simp only[hb,bF1,XR.mk.injEq]at h;obtain⟨rfl,rfl,rfl,rfl⟩:=h;exact⟨rfl,σ',g,i,n,p⟩
    |outgrown=>simp only[hb,bF1,XR.mk.injEq]at h;obtain⟨rfl,rfl,rfl,rfl⟩:=h;exact⟨rfl,σ',g,i,n,p⟩
  refine⟨?_,E⟩;intro c tm hp ds e tm' hp' ds' σ a w r h ht A z q;cases c with
  |skip=>
   simp only[f6,bF1,XR.mk.injEq]at h;obtain⟨rfl,rfl,rfl,rfl⟩:=h;exact wpIn_skip ⟨rfl,σ,Sg.gr_refl _ σ,z,ht,A⟩
  |label l=>
   simp only[f6,bF1,XR.mk.injEq]at h;obtain⟨rfl,rfl,rfl,rfl⟩:=h;exact wpIn_label ⟨rfl,σ,Sg.gr_refl _ σ,z,ht,A⟩
  |exit F=>
   simp only[f6,bF1,XR.mk.injEq]at h;obtain⟨rfl,rfl,rfl,rfl⟩:=h;exact wpIn_exit ⟨rfl,σ,Sg.gr_refl _ σ,z,ht,A⟩
  |ret=>
   simp only[f6,bF1,XR.mk.injEq]at h;obtain⟨rfl,rfl,rfl,rfl⟩:=h;exact wpIn_ret ⟨rfl,σ,Sg.gr_refl _ σ,z,ht,A⟩
  |region F ops draw=>
   simp only[f6]at h;cases draw with
   |true=>
    simp only[bG8]at h;split at h
    ·rename_i tm1 hp1 hr
     cases h;exact bP8 (L call t nt ops F tm hp _ _ hr B w0 σ a w ht A r) fun e' a' w' hq=>by
      obtain⟨h1,h2,σ',h3,h4,K⟩:=hq;exact⟨h1,σ',h3,by rw[h2];exact z.mono h3.le,h4,K⟩
    ·exact as5 t h ht A z q
   |false=>
    simp only[bG9]at h;split at h
    ·rename_i tm1 hp1 hr
     simp only[bF1,XR.mk.injEq]at h;obtain⟨rfl,rfl,rfl,rfl⟩:=h;refine bP8 (Q:=Y9 hp.nx B w0 σ nt .normal tm1 hp1 a.defers) (wpIn_region ?_) fun e' a' w' hq=>by
      obtain⟨h1,h2,σ',h3,h4,K⟩:=hq;exact⟨h1,σ',h3,by rw[h2];exact z.mono h3.le,h4,K⟩
     have:=bc6 (B:=B) (w0:=w0) t ops r ops.toList 0 tm hp _ _ σ a w (by simp) hr ht A a.defers rfl
     rw[List.range_eq_range']
     grind
    ·exact as5 t h ht A z q
  |seq x y=>
   simp only[f6]at h;cases hb:f6 P dr call nt ar m x tm hp ds with
   |none=>grind
   |some I=>
    obtain⟨G,tm1,hp1,u⟩:=I;refine wpIn_seq (bP8 (C x tm hp ds G tm1 hp1 u σ a w r hb ht A z q) fun e' a' w' hq=>?_)
    obtain⟨rfl,σ',g,i,n,p⟩:=hq;cases e' with
    |normal=>
     simp only[hb]at h;exact bP8 (C y tm1 hp1 u e tm' hp' ds' σ' a' w' r h n p i (q.mono g.le)) (fun e a w hq=>F6.le g hq)
    |exit F=>simp only[hb,bF1,XR.mk.injEq]at h;obtain⟨rfl,rfl,rfl,rfl⟩:=h;exact⟨rfl,σ',g,i,n,p⟩
    |goto F=>simp only[hb,bF1,XR.mk.injEq]at h;obtain⟨rfl,rfl,rfl,rfl⟩:=h;exact⟨rfl,σ',g,i,n,p⟩
    |ret=>simp only[hb,bF1,XR.mk.injEq]at h;obtain⟨rfl,rfl,rfl,rfl⟩:=h;exact⟨rfl,σ',g,i,n,p⟩
    |panic J=>simp only[hb,bF1,XR.mk.injEq]at h;obtain⟨rfl,rfl,rfl,rfl⟩:=h;exact⟨rfl,σ',g,i,n,p⟩
    |outgrown=>simp only[hb,bF1,XR.mk.injEq]at h;obtain⟨rfl,rfl,rfl,rfl⟩:=h;exact⟨rfl,σ',g,i,n,p⟩
  |cond c x y=>
   simp only[f6]at h;split at h
   ·rename_i hc
    have D:=U5 ht hc;generalize H:a.eval c=N at D;cases D;exact wpIn_cond_true H (C x tm hp ds e tm' hp' ds' σ a w r h ht A z q)
   ·rename_i hc
    have D:=U5 ht hc;generalize H:a.eval c=N at D;cases D;exact wpIn_cond_false H (C y tm hp ds e tm' hp' ds' σ a w r h ht A z q)
   ·cases h
  |block F b=>
   simp only[f6]at h;cases hb:f6 P dr call nt ar m b tm hp ds with
   |none=>grind
   |some I=>
    obtain⟨G,tm1,hp1,u⟩:=I;refine wpIn_block (bP8 (C b tm hp ds G tm1 hp1 u σ a w r hb ht A z q) fun e' a' w' hq=>?_)
    obtain⟨rfl,σ',g,i,n,p⟩:=hq;cases e' with
    |normal=>simp only[hb,bF1,XR.mk.injEq]at h;obtain⟨rfl,rfl,rfl,rfl⟩:=h;exact⟨rfl,σ',g,i,n,p⟩
    |exit j=>
     simp only[hb]at h
     by_cases hj:j=F
     ·subst hj
      rw[j9 rfl,bG8]at h;cases h;simp only[Exit.inBlock,bO3];exact⟨rfl,σ',g,i,n,p⟩
     ·rw[m8 hj,bG9]at h
      cases h;simp only[Exit.inBlock,hj,bO2];exact⟨rfl,σ',g,i,n,p⟩
    |goto F=>simp only[hb,bF1,XR.mk.injEq]at h;obtain⟨rfl,rfl,rfl,rfl⟩:=h;exact⟨rfl,σ',g,i,n,p⟩
    |ret=>simp only[hb,bF1,XR.mk.injEq]at h;obtain⟨rfl,rfl,rfl,rfl⟩:=h;exact⟨rfl,σ',g,i,n,p⟩
    |panic J=>simp only[hb,bF1,XR.mk.injEq]at h;obtain⟨rfl,rfl,rfl,rfl⟩:=h;exact⟨rfl,σ',g,i,n,p⟩
    |outgrown=>simp only[hb,bF1,XR.mk.injEq]at h;obtain⟨rfl,rfl,rfl,rfl⟩:=h;exact⟨rfl,σ',g,i,n,p⟩
  |loop b=>exact wpIn_loop_rounds (m+1) (E b tm hp ds e tm' hp' ds' σ a w r h ht A z q)
  |rangeFunc f ps x y=>exact aq2 t (by simpa only[f6]using h) ht A z q
  |scope b=>
   simp only[f6]at h;cases hb:f6 P dr call nt ar m b tm hp ds with
   |none=>grind
   |some I=>
    obtain⟨G,tm1,hp1,u⟩:=I;refine M7 (bP8 (C b tm hp ds G tm1 hp1 u σ a w r hb ht A z q) fun e' a' w' hq=>?_)
    obtain⟨rfl,σ',g,i,n,p⟩:=hq;cases e' with
    |normal=>simp only[hb,bF1,XR.mk.injEq]at h;obtain⟨rfl,rfl,rfl,rfl⟩:=h;exact⟨rfl,σ',g,i,n,p⟩
    |exit F=>simp only[hb,bF1,XR.mk.injEq]at h;obtain⟨rfl,rfl,rfl,rfl⟩:=h;exact⟨rfl,σ',g,i,n,p⟩
    |goto F=>grind
    |ret=>simp only[hb,bF1,XR.mk.injEq]at h;obtain⟨rfl,rfl,rfl,rfl⟩:=h;exact⟨rfl,σ',g,i,n,p⟩
    |panic J=>grind
    |outgrown=>grind
  |goto l=>simp only[f6,reduceCtorEq]at h
  |refuse s=>simp only[f6,reduceCtorEq]at h
end
def ae1 (P:Program)(tm:T Value)(hp:Hp):ResultVar->Option Value
 | .tmp t=>some ((tm.get t).getD undef)
 | .cell a t=>L8 P hp t ((tm.get a).getD undef)
def C7 (P:Program)(tm:T Value)(hp:Hp):List ResultVar->Option (List Value)
 | []=>some []
 |r::rs=>match ae1 P tm hp r with
  |some v=>match C7 P tm hp rs with
   |some vs=>some (v::vs)
   |none=>none
  |none=>none
def ac5 :List Value->Value
 | [v]=>v
 |vs=>.tuple vs.toArray
section
variable {P :Program}{B:BS}{w0:World}
theorem bn9 {σ : Sg} {hp : Hp} {w : World} {t : TypeId} {a a' v : Value} (h : L8 P hp t a = some v) ( f : VR σ a a') ( g : HR B w0 σ hp w) :
  ∃u,VR σ v u/\(do loadVar t (<-asAddr a'):Sem Value).run P w= .ok u w:=by
 obtain⟨u,h1,h2⟩:=as4 h f g;refine⟨u,h1,?_⟩;rw[<-h2];cases f<;>first|rfl| (simp[L8]at h)
def aH4 (tmps:Array Value):ResultVar->Sem Value
 | .tmp t=>pure (tmps.getD t undef)
 | .cell a t=>do loadVar t (<-asAddr (tmps.getD a undef))
theorem J5 {σ : Sg} {hp : Hp} {w : World} {nt : Nat} {tm : T Value} {tmps : Array Value} (ht : TR σ nt tm tmps) ( i : HR B w0 σ hp w) :
  ∀ {g:List ResultVar} {vs:List Value},C7 P tm hp g=some vs->
  ∃us,VRL σ vs us/\(g.mapM (aH4 tmps):Sem (List Value)).run P w= .ok us w
 | [],vs,h=>by simp only[C7,bF1]at h;subst h;exact⟨[],VRL.nil σ,by simp⟩
 |r::g,vs,h=>by
  simp only[C7]at h;cases hr:ae1 P tm hp r with
  |none=>grind
  |some v=>
   cases f:C7 P tm hp g with
   |none=>grind
   |some l=>
    simp only[hr,f,bF1]at h;subst h;obtain⟨us,h1,h2⟩:=J5 ht i f;cases r with
    |tmp t=>
     simp only[ae1,bF1]at hr;subst hr;refine⟨_::us,VRL.cons (ht.at_ t) h1,?_⟩;rw[List.mapM_cons];simp only[aH4,bI0,bI5,bH6,h2]
    |cell a t=>
     simp only[ae1]at hr;obtain⟨u,h3,h4⟩:=bn9 hr (ht.at_ a) i;refine⟨u::us,VRL.cons h3 h1,?_⟩;rw[List.mapM_cons,bI0];have j:(aH4 tmps (.cell a t)).run P w= .ok u w:=h4
     simp_all
theorem TR.start {σ : Sg} {args args' : List Value} (h : VRL σ args args') (n : Nat) :
  TR σ (args.length+(n-args.length)) (fill .e 0 args) (args'.toArray++Array.replicate (n-args'.toArray.size) undef):=by
 have hl:=h.1;refine⟨by simp[hl],fun k=>?_⟩
 rw[i4]
 by_cases hk:k<args.length
 ·rw[bH3 (by omega)]
  have f:k<args'.length:=by omega
  have i:args[k-0]? =some args[k]:=by simp[hk]
  have g:(args'.toArray++Array.replicate (n-args'.toArray.size) undef).getD k undef=args'[k]:=by
   simp[Array.getElem?_append,f]
  rw[i,g];exact h.2 k _ _ (by simp[hk]) (by simp[f])
 ·rw[bH1 (by omega)]
  have g:(args'.toArray++Array.replicate (n-args'.toArray.size) undef).getD k undef=undef:=by
   have f:¬k<args'.length:=by omega
   simp only[Array.getD_eq_getD_getElem?,Array.getElem?_append,List.size_toArray,f,bO2,Array.getElem?_replicate]
   grind
  rw[g];rw[T.get_e];exact VR.undef σ
end
end Go.Xe
end PartXm11
noncomputable section PartXm12
namespace Go.Xe
open Go.RowKit
def c9 :Op->Nat
 | .move _| .assign _| .pick _ _ _| .build _ _| .nilCheck _| .binOp _ _ _ _ _| .unOp _ _ _| .convert _ _ _| .makeInterface _ _| .makeFunc _ _ _
 | .fieldAddr _ _ _| .field _ _ _| .indexAddr _ _ _| .index _ _ _| .extract _ _=>0
 | .load _ _| .slice _ _ _ _ _| .lookup _ _ _ _| .call ⟨.builtin .len,_,_⟩=>1
 | .alloc _| .box _ _| .buildSlice _ _ _| .makeSlice _ _ _| .makeMap _ _| .range _ _=>2
 | .call ⟨.builtin .cap,_,_⟩| .call ⟨.builtin .min,_,_⟩| .call ⟨.builtin .max,_,_⟩=>0
 |_=>3
variable {P:Program}{call:d8}{tm:T Value}
theorem aC5 {o:Op}(h:c9 o=0):∃r:Option Value,∀hp,xop P call tm hp o=d7 hp r:=by
 cases o with
 |move x=>exact⟨_,fun _=>rfl⟩
 |assign x=>exact⟨_,fun _=>rfl⟩
 |pick c a b=>
  simp only[b9,g9];split
  ·rename_i t _
   cases t<;>exact⟨_,fun _=>rfl⟩
  ·exact⟨none,fun _=>rfl⟩
 |build t ps=>simp only[b9,g9];split<;>first|exact⟨_,fun _=>rfl⟩|exact⟨none,fun _=>rfl⟩
 |nilCheck x=>
  simp only[b9,g9];split
  ·exact⟨some _,fun _=>rfl⟩
  ·exact⟨some _,fun _=>rfl⟩
  ·exact⟨none,fun _=>rfl⟩
 |binOp op t x y n=>
  simp only[b9,g9];split
  ·split<;>first|exact⟨_,fun _=>rfl⟩|exact⟨none,fun _=>rfl⟩
  ·exact⟨none,fun _=>rfl⟩
 |unOp op t x=>simp only[b9,g9];split<;>first|exact⟨_,fun _=>rfl⟩|exact⟨none,fun _=>rfl⟩
 |convert s d x=>simp only[b9,g9];split<;>first|exact⟨_,fun _=>rfl⟩|exact⟨none,fun _=>rfl⟩
 |makeInterface t x=>simp only[b9,g9];split<;>first|exact⟨_,fun _=>rfl⟩|exact⟨none,fun _=>rfl⟩
 |makeFunc f a b=>
  simp only[b9,g9];split
  ·split<;>first|exact⟨some _,fun _=>rfl⟩|exact⟨none,fun _=>rfl⟩
  ·exact⟨none,fun _=>rfl⟩
 |fieldAddr t x f=>simp only[b9,g9];split<;>first|exact⟨_,fun _=>rfl⟩|exact⟨none,fun _=>rfl⟩
 |field t x f=>simp only[b9,g9];split<;>first|exact⟨_,fun _=>rfl⟩|exact⟨none,fun _=>rfl⟩
 |indexAddr t x i=>
  simp only[b9,g9];split
  ·split<;>first|exact⟨_,fun _=>rfl⟩|exact⟨none,fun _=>rfl⟩
  ·exact⟨none,fun _=>rfl⟩
 |index t x i=>
  simp only[b9,g9];split
  ·split<;>first|exact⟨_,fun _=>rfl⟩|exact⟨none,fun _=>rfl⟩
  ·exact⟨none,fun _=>rfl⟩
 |extract x i=>simp only[b9,g9];split<;>first|exact⟨_,fun _=>rfl⟩|exact⟨none,fun _=>rfl⟩
 |call c=>
  obtain⟨g,args,ats⟩:=c;cases g with
  |value f=>simp[c9]at h
  |invoke r m=>simp[c9]at h
  |builtin b=>
   simp only[b9,g9];split
   ·rename_i vs _
    generalize ats.toList=j;cases b<;>first
     | (simp[c9]at h;done)
     | (rcases j with _| ⟨t,_| ⟨u,r⟩⟩<;>rcases vs with _| ⟨x,_| ⟨y,l⟩⟩<;>first|exact⟨_,fun _=>rfl⟩|exact⟨none,fun _=>rfl⟩)
   ·exact⟨none,fun _=>rfl⟩
 |_=>simp[c9]at h
def xrd (P:Program)(tm:T Value)(hp:Hp)(o:Op):Option Value:=
 match xop P ⟨fun _ _ _=>none,fun _=>none,fun _ _ _=>none⟩ tm hp o with
 |some (v,hp')=>bif Nat.beq hp'.nx hp.nx then some v else none
 |none=>none
variable {v:Value}
theorem as8 {hp hp':Hp}{t:TypeId}{x:Value}{lo hi mx:Option Value}(h:j6 P hp t x lo hi mx=some (v,hp')):hp'=hp:=by
 have key:∀ {a:Value} {q:Hp},some (a,q)=some (v,hp')->q=hp->hp'=hp:=by
  intro a q g i;simp only[bF1,bF3]at g;rw[<-g.2,i]
 have f:∀ {b:Bool} {x y:Option (Value×Hp)},(bif b then x else y)=some (v,hp')->(x=some (v,hp')->hp'=hp)->(y=some (v,hp')->hp'=hp)->hp'=hp:=by
  intro b x y e h1 h2;cases b
  ·exact h2 e
  ·exact h1 e
 unfold j6 at h;split at h
 ·split at h
  ·split at h
   ·cases h
   ·split at h
    ·exact key h rfl
    ·cases h
  ·cases h
 ·split at h
  ·cases h
  ·split at h
   ·refine f h (fun h=>?_) (fun h=>by cases h)
    split at h
    ·exact key h rfl
    ·cases h
   ·split at h
    ·exact key h rfl
    ·cases h
   ·refine f h (fun h=>?_) (fun h=>?_)
    ·refine f h (fun h=>?_) (fun h=>by cases h)
     split at h
     ·cases h
     ·refine f h (fun h=>key h rfl) (fun h=>key h rfl)
     ·refine f h (fun h=>key h rfl) (fun h=>?_)
      refine f h (fun h=>key h rfl) (fun h=>?_)
      ·split at h
       ·exact f h (fun h=>key h rfl) (fun h=>by cases h)
       ·cases h
    ·refine f h (fun h=>?_) (fun h=>by cases h)
     split at h
     ·cases h
     ·exact f h (fun h=>key h rfl) (fun h=>key h rfl)
   ·cases h
 ·split at h
  ·cases h
  ·split at h
   ·refine f h (fun h=>?_) (fun h=>by cases h)
    split at h
    ·cases h
    ·exact f h (fun h=>key h rfl) (fun h=>key h rfl)
   ·cases h
 ·cases h
theorem bC0    {hp : Hp} {o : Op}  (hk : c9 o = 1) (h : xrd P tm hp o = some v) : xop P call tm hp o = some (v, hp) := by
 unfold xrd at h;split at h
 ·rename_i v' hp' hx
  cases hb:Nat.beq hp'.nx hp.nx with
  |false=>rw[hb]at h;cases h
  | true =>
   rw [hb,bG8,bF1] at h;subst h;have    g : hp' = hp := by
    cases o with
    |load t a=>
     simp only[b9,g9]at hx;split at hx
     ·exact(f5 hx).2
     ·cases hx
    |slice t x lo hi mx=>
     simp only[b9,g9]at hx;split at hx
     ·split at hx
      ·split at hx
       ·split at hx
        ·exact as8 hx
        ·cases hx
       ·cases hx
      ·cases hx
     ·cases hx
    |lookup t x k ok=>
     simp only[b9,g9]at hx;split at hx
     ·split at hx
      ·exact(f5 hx).2
      ·cases hx
     ·cases hx
    | call c =>
     obtain⟨f,args,ats⟩:=c;cases f with
     | builtin b =>
      cases b <;> first
       | (simp[c9]at hk;done)
       | (simp only [b9, g9] at hx
          split at hx
          ·generalize ats.toList=i at hx
           rename_i vs _
           rcases i with _| ⟨t,_| ⟨u,r⟩⟩<;>rcases vs with _| ⟨x,_| ⟨y,j⟩⟩<;>simp only[t8,reduceCtorEq]at hx
           exact(f5 hx).2
          ·cases hx)
     |_=>simp[c9]at hk
    |_=>simp[c9]at hk
   rw[g]at hx;cases o with
   |load t a=>exact hx
   |slice t x lo hi mx=>exact hx
   |lookup t x k ok=>exact hx
   |call c=>
    obtain⟨f,args,ats⟩:=c;cases f with
    |builtin b=>exact hx
    |_=>simp[c9]at hk
   |_=>simp[c9]at hk
 ·cases h
section
variable {P :Program}{B:BS}{w0:World}{σ:Sg}{hp:Hp}{w:World}
def rest (B:BS)(σ:Sg)(hp:Hp)(w:World):BS:=⟨fun k=>B.D k\/(k<w.heap.size/\ ∀i b p,hp.m.get i=some b->σ i=some p->p.blk≠k),B.D,fun _ h=>.inl h⟩
theorem bu4 (h:HR B w0 σ hp w){k:Nat}(hk:rest B σ hp w k):k<w.heap.size:=by
 rcases hk with hk|hk
 ·have:=h.old k (B.sub k hk);have:=h.size;omega
 ·exact hk.1
theorem bu3 (_:HR B w0 σ hp w){i:Nat}{b:Blk}{p:Pl}(f:hp.m.get i=some b)(hp1:σ i=some p)(hn:¬B p.blk):¬rest B σ hp w p.blk:=fun hb=>by
 rcases hb with hb|hb
 ·exact hn (B.sub _ hb)
 ·exact hb.2 i b p f hp1 rfl
theorem aS5 (h:HR B w0 σ hp w){k:Nat}(hk:B k):rest B σ hp w k:=by
 by_cases f:B.D k
 ·exact .inl f
 ·refine .inr ⟨by have:=h.old k hk;have:=h.size;omega,fun i b p g hp1 he=>?_⟩
  obtain⟨p',o,h1,h3,_⟩:=h.live i b g;have:p'=p:=bH7 (h1.symm.trans hp1);subst this;cases hr:P4 b with
  |true=>exact f (he▸h3.yes hr)
  |false=>exact h3.no hr (he▸hk)
theorem HR.max (h:HR B w0 σ hp w):HR (rest B σ hp w) w σ hp w:=by
 refine⟨rfl,rfl,rfl,bH4 _,fun k hk=>bu4 h hk,fun k _=>rfl,h.fresh,?_,h.inj⟩
 intro i b f;obtain⟨p,o,h1,h2,h3,h4⟩:=h.live i b f;exact⟨p,o,h1,h2.to id (bu3 h f h1),h3,h4⟩
theorem HR.back (h:HR B w0 σ hp w){σ':Sg}{hp':Hp}{w':World}(k:HR (rest B σ hp w) w σ' hp' w'):HR B w0 σ' hp' w':=by
 refine⟨k.os.trans h.os,k.tape.trans h.tape,k.output.trans h.output,bK9 h.size k.size,h.old,fun b hb=>(k.kept b (aS5 h hb)).trans (h.kept b hb),k.fresh,?_,k.inj⟩
 intro i b f;obtain⟨p,o,h1,h3,h4⟩:=k.live i b f;exact⟨p,o,h1,h3.to id (fun hn hb=>hn (aS5 h hb)),h4⟩
def Ext (B:BS)(σ:Sg)(hp:Hp)(w:World)(id:Nat)(n:Nw)(b:Nat):Prop:=
 ∃p o,σ id=some p/\p.blk=b/\w.heap[b]? =some o/\BR σ p n.blk o/\ ¬B b/\ ∀i b2 q,hp.m.get i=some b2->σ i=some q->q.blk≠b
def Hp.take (hp:Hp)(id:Nat)(n:Nw):Hp:= {hp with m:=hp.m.set id (some n.blk)}
theorem HR.take (h:HR B w0 σ hp w){g b:Nat}{n:Nw}(hx:Ext B σ hp w g n b):HR B w0 σ (hp.take g n) w:=by
 obtain⟨p,o,h1,rfl,h4,z,A,y⟩:=hx;refine⟨h.os,h.tape,h.output,h.size,h.old,h.kept,h.fresh,?_,?_⟩
 ·intro i t f
  simp only[Hp.take,T.get_set]at f
  by_cases hi:i=g
  ·rw[bH3 hi]at f
   simp only[bF1]at f;subst f;subst hi;exact⟨p,o,h1,.of A n.ok,h4,z⟩
  ·rw[bH1 hi]at f
   exact h.live i t f
 ·intro i j C t q r hi hj s hq hr
  simp only[Hp.take,T.get_set]at hi hj
  by_cases u:i=g
  ·have l:j≠g:=by omega
   rw[bH1 l]at hj;subst u;have:q=p:=bH7 (hq.symm.trans h1);subst this;exact Ne.symm (y j _ r hj hr)
  ·rw[bH1 u]at hi
   by_cases l:j=g
   ·subst l
    have:r=p:=bH7 (hr.symm.trans h1);subst this;exact y i _ q hi hq
   ·rw[bH1 l]at hj
    exact h.inj i j _ _ q r hi hj s hq hr
theorem HR.lay (h : HR B w0 σ hp w) { f : Nat} (  j : σ  f = none) (hlt :  f < hp.nx) (n : Nw) {o : Obj} {p : Pl} (  t : p.blk = w.heap.size) ( u : BR σ p n.blk o) :
  HR B w0 (σ.ext f p) hp (w.alloc o)/\Ext B (σ.ext f p) hp (w.alloc o) f n w.heap.size:=by
 have l:=Sg.le_ext (σ:=σ) p j;have y:=h.allocO f hp.nx j (bH4 _) hlt n.blk o p t (u.mono l) n.ok;have s:∀i b,hp.m.get i=some b->i≠f:=by
  intro i b g e;subst e;obtain⟨p,o,h1,_⟩:=h.live _ b g;rw[j]at h1;cases h1
 have hl:=y.less (m:=hp.m) (fun i b g=>by
  show(hp.m.set f _).get i=_;rw[T.get_set,bH1 (s i b g)];exact g)
 refine⟨by simpa using hl,p,o,Sg.ext_same _ _ _,t,?_,u.mono l,?_,?_⟩
 ·show(w.heap.push _)[w.heap.size]? =_;simp
 ·intro hb
  have h1:=h.old _ hb;have h2:=h.size;omega
 ·intro i b q g hq
  rw[Sg.ext_other _ _ _ (s i b g)]at hq;obtain⟨p',o',h1,_,h4,_⟩:=h.live i b g;have:p'=q:=bH7 (h1.symm.trans hq);subst this;have:=(bG6.1 h4).1;omega
end
end Go.Xe
end PartXm12
