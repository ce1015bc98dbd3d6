/- The executor, parts 8, 9, M, C, 10, 11, 12.
  Conditions: none. -/
import Derived.Test.YtcjhhnoaoldcmaaXm1
import Derived.Lib.AppendZerosOnto
import Derived.Lib.Overlaps
import Derived.RangeFuncRecord
import Derived.LoopNIn
import Derived.Scope
import Derived.RangeFuncNested
set_option linter.unusedSimpArgs false
set_option linter.unusedVariables false
noncomputable section PartXm8
namespace Go.Xe
open Go.RowKit
section
variable {P :Program}{B:BS}{w0:World}{σ:Sg}{hp:Hp}{w:World}
def M9 (hp : Hp) (size : Nat) (x : Value) : Option (Nat × List Value) :=
 match x with
 | .slice none n _=>bif Nat.beq n 0 then some (0,[])else none
 | .slice (some ⟨i, o, none⟩) n _ => match hp.m.get i with
  | some b => match rdC b with
   | some (c, k, _) => bif Nat.ble (o + n * size) k then
     match f9 c o (n*size)with
     |some vs=>some (n,vs)
     |none=>none
    else none
   |none=>none
  |none=>none
 | .slice (some ⟨0,0,some 0⟩) 0 _=>some (0,[])
 |_=>none
variable {x x':Value}{vs:List Value}
theorem al8 {size n : Nat}   (h : M9 hp size x = some (n, vs)) (hx : VR σ x x') ( t : HR B w0 σ hp w) :
  ∃us,VRL σ vs us/\us.length=n*size/\(∃b c,x'= .slice b n c/\(b=none->n=0/\us=[])/\ ∀a,b=some a-> ∀j u,us[j]? =some u->w.cell? (a.add j)=some u):=by
 unfold M9 at h;split at h
 ·rename_i k c
  cases hb:Nat.beq k 0 with
  |false=>grind
  |true=>
   rw[hb,bB8]at h;cases h;have hk:=bA6 hb;subst hk;cases hx;exact⟨[],VRL.nil σ,by simp,none,c,rfl,(fun _=>⟨rfl,rfl⟩),(fun a f=>by cases f)⟩
 ·rename_i i o k cap
  split at h
  ·rename_i b g
   split at h
   ·rename_i c m z hr
    cases hb:Nat.ble (o+k*size) m with
    |false=>grind
    |true=>
     rw[hb,bB8]at h;split at h
     ·rename_i y hl
      cases h;cases hx with
      |slice _ _ p _ _ c' hp' hc l=>
      obtain⟨us,h1,h2,h3⟩:=t.cellsR g hr (bA5 hb) hl hp'
      grind
     ·cases h
   ·cases h
  ·cases h
 ·simp only[bA1,bA3]at h
  obtain⟨rfl,rfl⟩:=h;cases hx with
  |vague q c'=>exact⟨[],VRL.nil σ,by simp,_,c',rfl,(fun h=>by cases h),(fun a _ j u s=>by simp at s)⟩
 ·cases h
variable {us:List Value}
theorem aa7 {size n : Nat} {b : Option Addr} {c : Nat}  (   f : us.length = n * size) (hn : b = none → n = 0 ∧ us = [])
  (hs:∀a,b=some a-> ∀j u,us[j]? =some u->w.cell? (a.add j)=some u):
  (Builtin.firstCells size n (.slice b n c)).run P w= .ok us.toArray w:=by
 cases b with
 |none=>obtain⟨rfl,rfl⟩:=hn rfl;exact run_firstCells_none w size 0 0 c
 |some a=>exact run_firstCells_some w size n a n c us f (hs a rfl)
variable {w':World}
theorem E8 (t u ty e  l : TypeId) (i : TypeInfo) (ht : P.underlying t = some (.slice e)) ( p : P.underlying u = some (.slice  l)) (hi : P.info? e = some i)
  (a:Addr) (f g n c:Nat) (b:Option Addr) (us:List Value) (hf:(Builtin.firstCells i.size n (.slice b n c)).run P w= .ok us.toArray w)
  (h:f+n<=g) (j:(storeCells (a.add (f*i.size)) us).run P w= .ok () w'):
  (Builtin.append_ #[t,u] ty #[.slice (some a) f g,.slice b n c]).run P w= .ok (.slice (some a) (f+n) g) w':=by
 simp[Builtin.append_,bC5 ht,bC5 p,sizeOf,typeInfo,hi,Builtin.lenOf,h,hf,j]
theorem M8 (t u ty e  C : TypeId) (i : TypeInfo) (z : Value) (ht : P.underlying t = some (.slice e)) ( E : P.underlying u = some (.slice  C)) (hi : P.info? e = some i) (hz : i.zero = some z)
  (h:Option Addr) (f g n c:Nat) (b:Option Addr) (j us:List Value)
  (s:∀w',w'.heap=w.heap->(Builtin.firstCells i.size f (.slice h f g)).run P w'= .ok j.toArray w')
  (hf:∀w',w'.heap=w.heap->(Builtin.firstCells i.size n (.slice b n c)).run P w'= .ok us.toArray w')
  (F:g<f+n) (D:((f+n:Nat):Int)<=9223372036854775807) (y:Builtin.nextslicecap (f+n) g*i.bytes<=281474976710656):
  (Builtin.append_ #[t,u] ty #[.slice h f g,.slice b n c]).run P w=
   .ok (.slice (some ⟨w.heap.size,0,none⟩) (f+n) (grownCap w (f+n) g e))
    (w.drew.alloc (.cells (j.toArray++us.toArray++Builtin.zeroCells z.cells (grownCap w (f+n) g e-(f+n))) e)):=by
 have hn:¬(f+n<=g):=by omega
 have p:¬(9223372036854775807<((f:Int)+(n:Int))):=by omega
 have l:¬(281474976710656<Builtin.nextslicecap (f+n) g*i.bytes):=by omega
 have A:=hf w.drew rfl;have q:=s w.drew rfl;simp[Builtin.append_,bC5 ht,bC5 E,sizeOf,typeInfo,zeroValue,hi,hz,Builtin.lenOf,hn,p,l,Question.forced,A,q,newRow,grownCap]
 grind
theorem HR.kill (h:HR B w0 σ hp w)(i:Nat):HR B w0 σ {hp with m:=hp.m.set i none} w:=by
 refine⟨h.os,h.tape,h.output,h.size,h.old,h.kept,h.fresh,?_,?_⟩
 ·intro j b hj
  simp only[T.get_set]at hj
  by_cases n:j=i
  ·rw[bC3 n]at hj;cases hj
  ·rw[bC1 n]at hj;exact h.live j b hj
 ·intro a b y z p q f hb s t u
  simp only[T.get_set]at f hb
  by_cases g:a=i
  ·rw[bC3 g]at f;cases f
  ·rw[bC1 g]at f
   by_cases l:b=i
   ·rw[bC3 l]at hb;cases hb
   ·rw[bC1 l]at hb
    exact h.inj a b _ _ p q f hb s t u
theorem HR.grown ( i : HR B w0 σ hp w)  ( h : VRL σ vs us) (   f : Array Value) (c : T Value) (hc : ∀ j, j < vs.length → c.get j = vs[j]?) (e z : Nat) :
  HR B w0 (σ.ext hp.nx ⟨w.heap.size,0,us.length+f.size,z⟩) ⟨hp.m.set hp.nx (some (.cells c vs.length e z)),hp.nx+1⟩ (w.drew.alloc (.cells (us.toArray++f) e)):=by
 have:=i.drew.alloc c vs.length e z (us.toArray++f) (by rw[h.1];simp) (fun j hj=>by
  have g:j<us.length:=by rw[<-h.1];exact hj
  refine⟨vs[j],us[j],by rw[hc j hj];simp[hj],?_,h.2 j _ _ (by simp[hj]) (by simp[g])⟩
  simp[Array.getElem?_append,g])
 simp_all
theorem HR.of_same (h:HR B w0 σ hp w){hp2:Hp}(hn:hp2.nx=hp.nx)(hm:∀i,hp2.m.get i=hp.m.get i):HR B w0 σ hp2 w:=
 ⟨h.os,h.tape,h.output,h.size,h.old,h.kept,fun i hi=>h.fresh i (by rw[<-hn];exact hi),fun i b f=>h.live i b (by rw[<-hm];exact f),
  fun i j b b' p q hi hj=>h.inj i j b b' p q (by rw[<-hm];exact hi) (by rw[<-hm];exact hj)⟩
def ad7 (P : Program) (hp : Hp) (t u : TypeId) (s x : Value) : Option (Value × Hp) :=
 match P.underlying t,P.underlying u with
 | some (.slice e), some (.slice _) => match P.info? e with
  |none=>none
  | some ie => match ie.zero with
   |none=>none
   | some z => bif Nat.beq z.cells.toList.length ie.size && Nat.ble ie.bytes 1048576 then
     match M9 hp ie.size x with
     |none=>none
     | some (n, news) => match s with
      | .slice none sLen sCap => bif Nat.beq sLen 0 && Nat.beq sCap 0 && Nat.ble n 67108864 then
        bif Nat.beq n 0 then some (.slice none 0 0,hp)
        else some (.slice (some ⟨hp.nx,0,none⟩) n (g9 n 0),hp.new news e ie.size)
       else none
      | .slice (some ⟨i,o,none⟩) sLen sCap=>match hp.m.get i with
       |some (.cells c k e' z')=>
        bif Nat.ble (sLen+n) 67108864&&news.all Value.oneCell' then
         bif Nat.beq n 0 then
          bif Nat.ble sLen sCap then some (.slice (some ⟨i,o,none⟩) sLen sCap,hp)else none
         else
          bif Nat.ble unk sCap then
           bif Nat.ble 1 (B4 sCap)&&Nat.ble (B4 sCap) (sLen+n)then
            bif Nat.ble (o+sLen*ie.size) k then
             match f9 c o (sLen*ie.size)with
             |none=>none
             |some olds=>some (.slice (some ⟨hp.nx,0,none⟩) (sLen+n) (g9 (sLen+n) 0),hp.new (olds++news) e ie.size)
            else none
           else bif Nat.beq z' ie.size&&Nat.beq e' e&&Nat.ble (o+sLen*ie.size) k then
            bif Nat.ble (sLen+n) (G4 sCap)then
             some (.slice (some ⟨i,o,none⟩) (sLen+n) sCap,ap2 hp i c (Nat.max k (o+(sLen+n)*ie.size)) e' z' (o+sLen*ie.size) news)
            else
            match f9 c o (sLen*ie.size)with
            |none=>none
            |some olds=>
             (bif Nat.beq o 0 then fill c (sLen*ie.size) news else fill (fill .e 0 olds) (sLen*ie.size) news).force fun ct=>
              some (.slice (some ⟨hp.nx,0,none⟩) (sLen+n) (g9 (sLen+n) 0),⟨(hp.m.set i none).set hp.nx (some (.cells ct ((sLen+n)*ie.size) e' z')),hp.nx+1⟩)
           else none
          else bif Nat.ble (sLen+n) sCap then
           bif Nat.ble (o+(sLen+n)*ie.size) k then
            some (.slice (some ⟨i,o,none⟩) (sLen+n) sCap,ap2 hp i c k e' z' (o+sLen*ie.size) news)
           else none
          else
           bif Nat.ble (o+sLen*ie.size) k then
            match f9 c o (sLen*ie.size)with
            |none=>none
            |some olds=>some (.slice (some ⟨hp.nx,0,none⟩) (sLen+n) (g9 (sLen+n) 0),hp.new (olds++news) e ie.size)
           else none
        else none
       |some (.ro c k _ _)=>
        bif Nat.ble (sLen+n) 67108864&&Nat.ble sLen sCap&& !Nat.ble unk sCap then
         bif Nat.beq n 0 then some (.slice (some ⟨i,o,none⟩) sLen sCap,hp)
         else bif Nat.ble (sLen+n) sCap then none
         else bif Nat.ble (o+sLen*ie.size) k then
          match f9 c o (sLen*ie.size)with
          |none=>none
          |some olds=>some (.slice (some ⟨hp.nx,0,none⟩) (sLen+n) (g9 (sLen+n) 0),hp.new (olds++news) e ie.size)
         else none
        else none
       |_=>none
      |_=>none
    else none
 |_,_=>none
theorem C0 {c:T Value}:∀ {vs:List Value} {o:Nat},(∀j,j<vs.length->c.get (o+j)=vs[j]?)->f9 c o vs.length=some vs
 | [],o,_=>rfl
 |v::vs,o,h=>by
  simp only[bE4,f9];have h0:=h 0 (by simp)
  simp only[bG6,bB7]at h0;rw[h0];have:=C0 (c:=c) (vs:=vs) (o:=o+1) (fun j hj=>by have:=h (j+1) (by simp;omega);rw[show o+(j+1)=o+1+j by omega]at this;simpa using this)
  rw[this]
theorem VR.unkSlice (σ:Sg)(i:Nat)(p:Pl)(hd:p.dl=0){l c':Nat}(hl:l<=c')(hb:c'*p.esz<=p.siz):VR (σ.ext i p) (.slice (some ⟨i,0,none⟩) l (g9 l 0)) (.slice (some ⟨p.blk,0,none⟩) l c'):=by
 have:=VR.slice (σ:=σ.ext i p) i 0 p l (g9 l 0) c' (Sg.ext_same _ _ _) (.inr ⟨u9 _ _,by rw[L8 I3];exact hl,.inl (L7 I3),by rw[hd];omega⟩) hl
 grind
theorem ac3 (h:w'.heap=w.heap)(a:Addr):w'.cell? a=w.cell? a:=by
 unfold World.cell?;rw[h]
set_option maxHeartbeats 1000000 in
theorem aC9 {t u : TypeId} {s s':Value} {v : Value} {hp' : Hp} (h : ad7 P hp t u s x = some (v, hp')) (hs : VR σ s s') (hx : VR σ x x') ( K : HR B w0 σ hp w) (ty : TypeId) :
  MOK hp B w0 σ v hp' ((Builtin.append_ #[t,u] ty #[s',x']).run P w):=by
 unfold ad7 at h;split at h
 case h_2=>cases h
 rename_i e e2 ht R;split at h
 ·cases h
 rename_i ie I;split at h
 ·cases h
 rename_i z hz;cases hb:Nat.beq z.cells.toList.length ie.size&&Nat.ble ie.bytes 1048576 with
 |false=>grind
 |true=>
 rw[hb,bB8]at h;simp only[bA2]at hb;have ez:z.cells.size=ie.size:=by simp_all
 have eb:=bA5 hb.2;split at h
 ·cases h
 rename_i n news bm;obtain⟨us,hv,D,b,c,rfl,ay,az⟩:=al8 bm hx K;have Q:news.length=n*ie.size:=by rw[hv.1];exact D
 have hf:(Builtin.firstCells ie.size n (.slice b n c)).run P w= .ok us.toArray w:=aa7 D ay az;have ao:∀w':World,w'.heap=w.heap->(Builtin.firstCells ie.size n (.slice b n c)).run P w'= .ok us.toArray w':=fun w' hh=>
  aa7 D ay (fun a ha j u R=>by rw[ac3 hh];exact az a ha j u R)
 split at h
 ·rename_i f g
  cases h0:Nat.beq f 0&&Nat.beq g 0&&Nat.ble n 67108864 with
  |false=>grind
  |true=>
  rw[h0,bB8]at h;simp only[bA2]at h0;have e1:=bA6 h0.1.1;have bk:=bA6 h0.1.2;have hn:=bA5 h0.2;subst e1;subst bk;cases hs;cases y:Nat.beq n 0 with
  |true=>
   rw[y,bB8]at h;cases h;have:=bA6 y;subst this;have Y:us=[]:=bA7 (by simpa using D)
   subst Y;refine⟨σ,.slice none 0 0,w,?_,Sg.gr_refl _ σ,.nils 0 0,K⟩;simp[Builtin.append_,bC5 ht,bC5 R,sizeOf,typeInfo,I,Builtin.lenOf,hf]
  |false=>
   rw[y,bB9]at h;cases h;have ah:n≠0:=fun e=>by rw[e]at y;cases y
   have hr:=M8 (P:=P) (w:=w) t u ty e e2 ie z ht R I hz none 0 0 n c b [] us (fun w' _=>run_firstCells_none w' ie.size 0 0 0) ao (by omega) (by omega)
    (growslice_fits (by omega) (by have:=Nat.mul_le_mul (show 0+n<=67108864 by omega) eb;omega))
   simp only[bD3]at hr;have hge:=grownCap_ge w n 0 e;have M:=K.grown hv (Builtin.zeroCells z.cells (grownCap w n 0 e-n)) (fill .e 0 news) (fun j hj=>C5 news j hj) e ie.size
   refine⟨_,_,_,hr,K.le_new _,VR.unkSlice σ hp.nx ⟨w.heap.size,0,us.length+(Builtin.zeroCells z.cells (grownCap w n 0 e-n)).size,ie.size⟩ rfl hge ?_,?_⟩
   ·show grownCap w n 0 e*ie.size<=us.length+_
    rw[size_zeroCells,D,ez,<-bD7]
    grind
   ·simpa [Hp.new]using M
 ·rename_i i o    f    g
  split at h
  case h_3=>cases h
  case h_2=>
   rename_i k0 k e' z' hg;cases h0:Nat.ble (f+n) 67108864&&Nat.ble f g&& !Nat.ble unk g with
   |false=>grind
   |true=>
   rw[h0,bB8]at h;simp only[bA2,bE7]at h0;obtain⟨⟨g1,g2⟩,g3⟩:=h0;have hn:=bA5 g1;have g3:¬unk<=g:=fun h=>by rw[bA8 h]at g3;cases g3
   cases hs with
   |slice _ _ p _ _ c' F U ap=>
   obtain⟨rfl,_⟩:g=c'/\g<unk:=by
    grind
   cases y:Nat.beq n 0 with
   |true=>
    rw[y,bB8]at h;have:=bA6 y;subst this;have Y:us=[]:=bA7 (by simpa using D)
    subst Y;cases h;refine⟨σ,_,w,E8 t u ty e e2 ie ht R I _ f g 0 c b [] hf (by omega) (by simp[storeCells]),Sg.gr_refl _ σ,.slice i o p f g g F U ap,K⟩
   |false=>
   rw[y,bB9]at h;have ah:n≠0:=fun e=>by rw[e]at y;cases y
   cases au:Nat.ble (f+n) g with
   |true=>grind
   |false=>
   rw[au,bB9]at h;have hlt:g<f+n:=Nat.lt_of_not_le fun h=>by rw[bA8 h]at au;cases au
   cases C:Nat.ble (o+f*ie.size) k with
   |false=>grind
   |true=>
   rw[C,bB8]at h;have C:=bA5 C;split at h
   ·cases h
   rename_i q J;simp only[bA1,bA3]at h;obtain⟨rfl,rfl⟩:=h;obtain⟨A,aw,E,ai⟩:=K.cellsR hg rfl C J F;have al:∀w':World,w'.heap=w.heap->(Builtin.firstCells ie.size f (.slice (some ⟨p.blk,p.dl+o,none⟩) f g)).run P w'= .ok A.toArray w':=fun w' hh=>
    run_firstCells_some w' ie.size f _ f g A E (fun j u R=>by rw[ac3 hh];exact ai j u R)
   have hr:=M8 (P:=P) (w:=w) t u ty e e2 ie z ht R I hz (some ⟨p.blk,p.dl+o,none⟩) f g n c b A us al ao hlt (by omega)
    (growslice_fits hlt (by have:=Nat.mul_le_mul hn eb;omega))
   have hge:=grownCap_ge w (f+n) g e;have H:=aw.append hv;have aj:(q++news).length=(f+n)*ie.size:=by rw[H.1,bC8,E,D,bD7]
   have M:=K.grown H (Builtin.zeroCells z.cells (grownCap w (f+n) g e-(f+n))) (fill .e 0 (q++news)) (fun j hj=>C5 _ j hj) e ie.size
   have av:(A++us).length=(f+n)*ie.size:=by rw[<-H.1];exact aj
   rw[show(A++us).toArray=A.toArray++us.toArray by simp]at M
   refine⟨_,_,_,hr,K.le_new _,VR.unkSlice σ hp.nx ⟨w.heap.size,0,(A++us).length+(Builtin.zeroCells z.cells (grownCap w (f+n) g e-(f+n))).size,ie.size⟩ rfl hge ?_,by simpa [Hp.new]using M⟩
   show grownCap w (f+n) g e*ie.size<=(A++us).length+_;rw[size_zeroCells,av,ez,<-bD7]
   grind
  rename_i k0 k e' z' hg;cases h0:Nat.ble (f+n) 67108864&&news.all Value.oneCell' with
  |false=>rw[h0]at h;cases h
  |true=>
  rw[h0,bB8]at h;simp only[bA2]at h0;have hn:=bA5 h0.1;have W:=hv.all_oneCell h0.2;cases hs with
  |slice _ _ p _ _ c' F U ap=>
  obtain⟨k1,k2⟩:=K.place hg F;cases y:Nat.beq n 0 with
  |true=>
   rw[y,bB8]at h;have:=bA6 y;subst this;have Y:us=[]:=bA7 (by simpa using D)
   subst Y;cases Z:Nat.ble f g with
   |false=>simp_all
   |true=>
    rw[Z,bB8]at h;simp only[bA1,bA3]at h;obtain⟨rfl,rfl⟩:=h;refine⟨σ,_,w,E8 t u ty e e2 ie ht R I _ f c' 0 c b [] hf (by omega) (by simp[storeCells]),Sg.gr_refl _ σ,.slice i o p f g c' F U ap,K⟩
  |false=>
  rw[y,bB9]at h;have ah:n≠0:=fun e=>by rw[e]at y;cases y
  have   ad : ∀    q : List Value, f9 k0 o (   f * ie.size) = some    q → o +    f * ie.size ≤ k → c' <    f + n → ∀ ( ab : Hp), HR B w0 σ  ab w → ∀ ct : T Value, (∀ j, j < (   q ++ news).length → ct.get j = (   q ++ news)[j]?) →
    ∀ex zx,ex=e->zx=ie.size->ab.nx=hp.nx->
    MOK hp B w0 σ (.slice (some ⟨hp.nx,0,none⟩) (f+n) (g9 (f+n) 0)) ⟨ab.m.set hp.nx (some (.cells ct ((f+n)*ie.size) ex zx)),hp.nx+1⟩
     ((Builtin.append_ #[t,u] ty #[.slice (some ⟨p.blk,p.dl+o,none⟩) f c',.slice b n c]).run P w):=by
   rintro q J C hlt ab bp ct ak ex zx rfl rfl bn
   obtain⟨A,aw,E,ai⟩:=K.cells hg C J F;have al:∀w':World,w'.heap=w.heap->(Builtin.firstCells ie.size f (.slice (some ⟨p.blk,p.dl+o,none⟩) f c')).run P w'= .ok A.toArray w':=fun w' hh=>
    run_firstCells_some w' ie.size f _ f c' A E (fun j u R=>by rw[ac3 hh];exact ai j u R)
   have hr:=M8 (P:=P) (w:=w) t u ty ex e2 ie z ht R I hz (some ⟨p.blk,p.dl+o,none⟩) f c' n c b A us al ao hlt (by omega)
    (growslice_fits hlt (by have:=Nat.mul_le_mul hn eb;omega))
   have hge:=grownCap_ge w (f+n) c' ex;have H:=aw.append hv;have aj:(q++news).length=(f+n)*ie.size:=by rw[H.1,bC8,E,D,bD7]
   have M:=bp.grown H (Builtin.zeroCells z.cells (grownCap w (f+n) c' ex-(f+n))) ct ak ex ie.size;rw[aj,bn]at M;have av:(A++us).length=(f+n)*ie.size:=by grind
   rw[show(A++us).toArray=A.toArray++us.toArray by simp]at M
   refine⟨_,_,_,hr,K.le_new _,VR.unkSlice σ hp.nx ⟨w.heap.size,0,(A++us).length+(Builtin.zeroCells z.cells (grownCap w (f+n) c' ex-(f+n))).size,ie.size⟩ rfl hge ?_,M⟩;show grownCap w (f+n) c' ex*ie.size<=(A++us).length+_;rw[size_zeroCells,av,ez,<-bD7];exact bB4 _ (by omega)
  have     S : ∀ {v : Value} {hp' : Hp}, c' <    f + n → (bif Nat.ble (o +    f * ie.size) k then
    match f9 k0 o (f*ie.size)with
    |none=>none
    |some q=>some (Value.slice (some ⟨hp.nx,0,none⟩) (f+n) (g9 (f+n) 0),hp.new (q++news) e ie.size)
   else none)=some (v,hp')->MOK hp B w0 σ v hp' ((Builtin.append_ #[t,u] ty #[.slice (some ⟨p.blk,p.dl+o,none⟩) f c',.slice b n c]).run P w):=by
   intro v hp' hlt h;cases C:Nat.ble (o+f*ie.size) k with
   |false=>rw[C]at h;cases h
   |true=>
    rw[C,bB8]at h;have C:=bA5 C;split at h
    ·cases h
    rename_i q J;simp only[bA1,bA3]at h;obtain⟨rfl,rfl⟩:=h;have aa:=(u6 J).1;have:=ad q J C hlt hp K (fill .e 0 (q++news)) (fun j hj=>C5 _ j hj) e ie.size rfl rfl rfl
    rw[show(f+n)*ie.size=(q++news).length by rw[bC8,aa,Q,bD7]]at this
    exact this
  cases O:Nat.ble unk g with
  | true =>
   rw[O,bB8]at h;have O:=bA5 O;obtain⟨bb,ba,ae⟩:G4 g<=c'/\(B4 g=0\/c'<B4 g)/\p.dl+o+c'*p.esz<=p.siz:=by
    rcases U with⟨_,h⟩| ⟨_,h2,h3,h4⟩
    ·omega
    ·exact⟨h2,h3,h4⟩
   cases G:Nat.ble 1 (B4 g)&&Nat.ble (B4 g) (f+n)with
   |true=>
    rw[G,bB8]at h;simp only[bA2]at G;have g1:=bA5 G.1;have g2:=bA5 G.2;exact S (by omega) h
   |false=>
   rw[G,bB9]at h;cases h1:Nat.beq z' ie.size&&Nat.beq e' e&&Nat.ble (o+f*ie.size) k with
   |false=>rw[h1]at h;cases h
   |true=>
   rw[h1,bB8]at h;simp only[bA2]at h1;have ax:=bA6 h1.1.1;have he:=bA6 h1.1.2;have C:=bA5 h1.2;cases ac:Nat.ble (f+n) (G4 g)with
   |true=>
    rw[ac,bB8,I8]at h;have ac:=bA5 ac;have l:f+n<=c':=by omega
    simp only[bA1,bA3]at h;obtain⟨rfl,rfl⟩:=h;have be:p.dl+(o+f*ie.size+n*ie.size)<=p.siz:=by
     have:(f+n)*ie.size<=c'*p.esz:=by rw[k2,ax];exact bB4 _ l
     rw[bD7]at this;omega
    obtain⟨w',X,hh,_⟩:=K.store (o:=o+f*ie.size) hg F hv W C (by rw[Q];omega) P
    have L:(⟨p.blk,p.dl+o,none⟩:Addr).add (f*ie.size)=⟨p.blk,p.dl+(o+f*ie.size),none⟩:=by rw[bI7,bG0]
    have N:=E8 (P:=P) t u ty e e2 ie ht R I ⟨p.blk,p.dl+o,none⟩ f c' n c b us hf l (w':=w') (by rw[L];exact X)
    refine⟨σ,_,w',N,Sg.gr_refl _ σ,.slice i o p _ _ _ F (.inr ⟨O,bb,ba,ae⟩) l,?_⟩;rw[Q,show max k (o+f*ie.size+n*ie.size)=Nat.max k (o+(f+n)*ie.size) by rw[bD7,bG0]]at hh
    exact hh
   |false=>
   rw[ac,bB9]at h;split at h
   ·cases h
   rename_i q J;rw[T.force_eq]at h;generalize bi:(bif Nat.beq o 0 then fill k0 (f*ie.size) news else fill (fill .e 0 q) (f*ie.size) news)=ct at h
   simp only[bA1,bA3]at h;obtain⟨rfl,rfl⟩:=h;obtain⟨aa,aq⟩:=u6 J;have ak:∀j,j<(q++news).length->ct.get j=(q++news)[j]? :=by
    intro j hj;rw[<-bi];have bq:j<f*ie.size+news.length:=by simpa [aa]using hj
    by_cases bg:j<f*ie.size
    ·rw[bB0 (by omega),aq j bg]
     cases ho:Nat.beq o 0 with
     |true=>
      have:=bA6 ho;subst this;rw[bB8,j3,bC1 (by omega)];simp
     |false=>
      rw[bB9,j3,bC1 (by omega),C5 q j (by omega),aq j bg]
    ·rw[bA9 (by omega),aa]
     cases ho:Nat.beq o 0 with
     |true=>rw[bB8,j3,bC3 (by omega)]
     |false=>rw[bB9,j3,bC3 (by omega)]
   by_cases l:f+n<=c'
   ·
    have be:p.dl+o+(f*ie.size+n*ie.size)<=p.siz:=by
     have:(f+n)*ie.size<=c'*p.esz:=by rw[k2,ax];exact bB4 _ l
     rw[bD7]at this;omega
    have hm:=K.move hg F (o:=o) (k:=f*ie.size) C (bif Nat.beq o 0 then k0 else fill .e 0 q) (fun j hj=>by
     cases ho:Nat.beq o 0 with
     |true=>have:=bA6 ho;subst this;simp
     |false=>rw[bB9,C5 q j (by omega),aq j hj])
    have Z:=K.le_new ⟨p.blk,p.dl+o,p.siz,p.esz⟩;obtain⟨w',X,hh,_⟩:=hm.store (i:=hp.nx) (o:=f*ie.size) (by rw[T.get_set,bC3 rfl]) (Sg.ext_same _ _ _) (hv.mono Z.le) W (bC4 _) (by show p.dl+o+_+_<=p.siz;rw[Q];omega) P
    have L:(⟨p.blk,p.dl+o,none⟩:Addr).add (f*ie.size)=⟨p.blk,p.dl+o+f*ie.size,none⟩:=bI7 _ _ _;have N:=E8 (P:=P) t u ty e e2 ie ht R I ⟨p.blk,p.dl+o,none⟩ f c' n c b us hf l (w':=w') (by rw[L];exact X)
    refine⟨_,_,w',N,Z,?_,?_⟩
    ·have:=VR.slice (σ:=σ.ext hp.nx ⟨p.blk,p.dl+o,p.siz,p.esz⟩) hp.nx 0 ⟨p.blk,p.dl+o,p.siz,p.esz⟩ (f+n) (g9 (f+n) 0) c' (Sg.ext_same _ _ _) (.inr ⟨u9 _ _,by rw[L8 I3];exact l,.inl (L7 I3),by simpa using ae⟩) l
     simpa using this
    ·have  bl : fill (bif Nat.beq o 0 then k0 else fill .e 0    q) (   f * ie.size) news = ct := by
      rw[<-bi];cases Nat.beq o 0<;>rfl
     rw[bl,Q,show max (f*ie.size) (f*ie.size+n*ie.size)=(f+n)*ie.size by rw[bD7];omega]at hh
     refine hh.of_same rfl (fun j=>?_)
     simp only[T.get_set];split<;>rfl
   ·subst ax
    subst he;exact ad q J C (by omega) {hp with m:=hp.m.set i none} (K.kill i) _ ak _ _ rfl rfl rfl
  |false=>
   rw[O,bB9]at h;have bc:¬unk<=g:=fun h=>by rw[bA8 h]at O;cases O
   obtain⟨rfl,bh⟩:g=c'/\g<unk:=by
    rcases U with h| ⟨h,_⟩
    ·exact h
    ·exact absurd h bc
   cases l:Nat.ble (f+n) g with
   |true=>
    rw[l,bB8]at h;have l:=bA5 l;cases V:Nat.ble (o+(f+n)*ie.size) k with
    |false=>rw[V]at h;cases h
    |true=>
     rw[V,bB8,I8]at h;have V:=bA5 V;simp only[bA1,bA3]at h;obtain⟨rfl,rfl⟩:=h;rw[bD7]at V;obtain⟨w',X,hh,_⟩:=K.store (o:=o+f*ie.size) hg F hv W (by omega) (by rw[Q];omega) P
     have L:(⟨p.blk,p.dl+o,none⟩:Addr).add (f*ie.size)=⟨p.blk,p.dl+(o+f*ie.size),none⟩:=by rw[bI7,bG0]
     have N:=E8 (P:=P) t u ty e e2 ie ht R I ⟨p.blk,p.dl+o,none⟩ f g n c b us hf l (w':=w') (by rw[L];exact X)
     refine⟨σ,_,w',N,Sg.gr_refl _ σ,.slice i o p _ _ _ F (.inl ⟨rfl,bh⟩) l,?_⟩
     ·rw[Q,show max k (o+f*ie.size+n*ie.size)=k by omega]at hh
      exact hh
   |false=>
    rw[l,bB9]at h;have bj:¬f+n<=g:=fun h=>by rw[bA8 h]at l;cases l
    exact S (by omega) h
 ·cases h
end
end Go.Xe
end PartXm8
noncomputable section PartXm9
namespace Go.Xe
open Go.RowKit
section
variable {P :Program}{B:BS}{w0:World}{σ:Sg}{hp:Hp}{w:World}
def bs3 (P : Program) (hp : Hp) (t : TypeId) (d x : Value) : Option (Value × Hp) :=
 match P.underlying t with
 | some (.slice e) => match P.info? e with
  |none=>none
  | some ie => match d with
   | .slice none dl _ => bif Nat.beq dl 0 then
     match x with
     | .slice (some ⟨_,_,none⟩) _ _| .slice none _ _=>some (.int .i64 0,hp)
     |_=>none
    else none
   | .slice (some ⟨0, 0, some 0⟩) 0 _ => match x with
     | .slice (some ⟨_,_,none⟩) _ _=>some (.int .i64 0,hp)
     |_=>none
   | .slice (some ⟨i, o, none⟩) dl dc => match hp.m.get i with
    | some (.cells c k e' z') => match x with
     | .slice none n _=>bif Nat.beq n 0 then some (.int .i64 0,hp)else none
     | .slice (some ⟨j, q, none⟩) n cx => match M9 hp ie.size (.slice (some ⟨j, q, none⟩) (Nat.min n dl) cx) with
      | some (m, vs) => bif (Nat.ble (o + m * ie.size) k || (Nat.ble unk dc && Nat.beq z' ie.size && Nat.ble o k)) && Nat.ble m dl && vs.all Value.oneCell' then
        some (.int .i64 m,ap2 hp i c (Nat.max k (o+m*ie.size)) e' z' o vs)
       else none
      |none=>none
     | .slice (some ⟨0,0,some 0⟩) 0 _=>some (.int .i64 0,hp)
     |_=>none
    |_=>none
   |_=>none
 |_=>none
variable {v x x':Value}
theorem aS7 {t u : TypeId} {d  L:Value}  {hp' : Hp} (h : bs3 P hp t d x = some (v, hp')) (hd : VR σ d  L) (hx : VR σ x x') ( l : HR B w0 σ hp w) (ty : TypeId) :
  MOK hp B w0 σ v hp' ((Builtin.copy_ #[t,u] ty #[L,x']).run P w):=by
 unfold bs3 at h;split at h
 case h_2=>cases h
 rename_i e ht;split at h
 ·cases h
 rename_i ie f;split at h
 ·rename_i dl E
  cases hb:Nat.beq dl 0 with
  |false=>grind
  |true=>
  rw[hb,bB8]at h;have hb:=bA6 hb;subst hb;cases hd;split at h
  ·rename_i j q n C
   cases h;cases hx with
   |slice _ _ p _ _ c' hp' hc hl=>
   refine⟨σ,_,w,?_,Sg.gr_refl _ σ,.int _ _,l⟩;simp[Builtin.copy_,bC5 ht,Builtin.lenOf,sizeOf,typeInfo,f,Builtin.firstCells,loadCells,loadCellsFrom,goInt]
  ·rename_i n C
   cases h;cases hx;refine⟨σ,_,w,?_,Sg.gr_refl _ σ,.int _ _,l⟩;simp[Builtin.copy_,bC5 ht,Builtin.lenOf,sizeOf,typeInfo,f,Builtin.firstCells,goInt]
  ·cases h
 ·rename_i E
  split at h
  ·simp only[bA1,bA3]at h
   obtain⟨rfl,rfl⟩:=h;cases hd;cases hx with
   |slice _ _ p _ _ c' hp' hc hl=>
   refine⟨σ,_,w,?_,Sg.gr_refl _ σ,.int _ _,l⟩;simp[Builtin.copy_,bC5 ht,Builtin.lenOf,sizeOf,typeInfo,f,Builtin.firstCells,loadCells,loadCellsFrom,storeCells,goInt]
  ·cases h
 ·rename_i i o dl E
  split at h
  case h_2=>cases h
  rename_i c k e' W Q;cases hd with
  |slice _ _ p _ _ c' A hc hl=>
  obtain⟨k1,k2⟩:=l.place Q A;split at h
  ·rename_i n C
   cases hb:Nat.beq n 0 with
   |false=>grind
   |true=>
    rw[hb,bB8]at h;have hb:=bA6 hb;subst hb;cases h;cases hx;refine⟨σ,_,w,?_,Sg.gr_refl _ σ,.int _ _,l⟩;simp[Builtin.copy_,bC5 ht,Builtin.lenOf,sizeOf,typeInfo,f,Builtin.firstCells,goInt,storeCells]
  ·rename_i j q n C
   cases hx with
   |slice _ _ p2 _ _ D hp2 H T=>
   split at h
   ·rename_i m vs hf
    cases hb:(Nat.ble (o+m*ie.size) k|| (Nat.ble unk E&&Nat.beq W ie.size&&Nat.ble o k))&&Nat.ble m dl&&vs.all Value.oneCell' with
    |false=>grind
    |true=>
     rw[hb,bB8,I8]at h;simp only[bA2,bH6]at hb;have U:=bA5 hb.1.2;have y:o<=k/\p.dl+(o+m*ie.size)<=p.siz:=by
      rcases hb.1.1 with S| ⟨⟨M,F⟩,N⟩
      ·simp_all;omega
      ·have M:=bA5 M
       have F:=bA6 F;have N:=bA5 N;have O:p.dl+o+c'*p.esz<=p.siz:=by grind
       have:m*ie.size<=c'*p.esz:=by rw[k2,F];exact bB4 _ (by omega)
       omega
     cases h;have V:Nat.min n dl<=n:=Nat.min_le_left _ _;obtain⟨us,J,g,b,X,s,R,G⟩:=al8 hf (.slice j q p2 (Nat.min n dl) C D hp2 H (by omega)) l
     simp only[Value.slice.injEq]at s;obtain⟨rfl,rfl,rfl⟩:=s;have z:=J.all_oneCell hb.2;have K:=J.1;obtain⟨w',I,hh,_⟩:=l.store (o:=o) Q A J z y.1 (by rw[K,g];omega) P
     refine⟨σ,_,w',?_,Sg.gr_refl _ σ,.int _ _,?_⟩
     ·have hl:=run_loadCells_list (P:=P) w _ us (G _ rfl)
      rw[g]at hl;simp only[Builtin.copy_,List.getElem?_toArray,bB7,bB2,bD0,bC5 ht,bC6,Builtin.lenOf,bD5,sizeOf,typeInfo,bJ4,f,Builtin.firstCells,hl,I,goInt]
     ·grind
   ·cases h
  ·simp only[bA1,bA3]at h
   obtain⟨rfl,rfl⟩:=h;cases hx with
   |vague q c'=>
    refine⟨σ,_,w,?_,Sg.gr_refl _ σ,.int _ _,l⟩;simp[Builtin.copy_,bC5 ht,Builtin.lenOf,sizeOf,typeInfo,f,Builtin.firstCells,loadCells,loadCellsFrom,storeCells,goInt]
  ·cases h
 ·cases h
def D1 (v:Value)(y:Nat):Option Nat:=
 match v with
 | .int _ n=>bif decide (0<=n)&&decide (n<=y)then some n.toNat else none
 |_=>none
theorem D8 {v':Value} {y n : Nat} (h : D1 v y = some n) ( i : VR σ v v') { g : Nat} (hy : y ≤  g) (   f : BoundsCode) :
  n<=y/\ ∀w,(Instr.sliceBound v' g f).run P w= .ok n w:=by
 unfold D1 at h;split at h
 ·rename_i k m
  cases i;cases hb:decide (0<=m)&&decide (m<=y)with
  |false=>grind
  |true=>
   rw[hb,bB8]at h;simp only[bA2,bC2]at hb;simp only[bA1]at h;subst h;exact⟨by omega,fun w=>run_sliceBound w k m g f hb.1 (by omega)⟩
 ·cases h
def v6 (len cb:Nat)(lo hi mx:Option Value):Option (Nat×Nat×Option Nat):=
 match(match mx with|some v=>(D1 v cb).map some|none=>some none)with
 |none=>none
 |some m=>match(match hi with|some v=>D1 v (m.getD cb)|none=>(match mx with|some _=>none|none=>some len))with
  |none=>none
  |some h=>match(match lo with|some v=>D1 v h|none=>some 0)with
   |none=>none
   |some l=>some (l,h,m)
def OVR (σ:Sg):Option Value->Option Value->Prop
 |none,none=>True
 |some v,some u=>VR σ v u
 |_,_=>False
variable {hi hi' lo lo' mx mx':Option Value}
theorem v9 {len  g cap : Nat}  {l h : Nat} {m : Option Nat} (he : v6 len  g lo hi mx = some (l, h, m))
  (h1:OVR σ lo lo') (h2:OVR σ hi hi') (h3:OVR σ mx mx') (hc:g<=cap) (p:len<=g) (isS:Bool):
  l<=h/\h<=m.getD g/\m.getD g<=g/\ ∀w,(Instr.sliceBounds isS len cap lo' hi' mx').run P w= .ok (l,h,m.getD cap) w:=by
 unfold v6 at he;cases mx with
 |none=>
  cases mx' with
  |some _=>exact h3.elim
  |none=>
  simp only[Option.getD_none]at he;cases hi with
  |none=>
   cases hi' with
   |some _=>exact h2.elim
   |none=>
   simp only at he;cases lo with
   |none=>
    cases lo' with
    |some _=>exact h1.elim
    |none=>
    cases he;exact⟨by omega,p,bC4 _,fun w=>by simp[Instr.sliceBounds]⟩
   |some lv=>
    cases lo' with
    |none=>exact h1.elim
    |some q=>
    simp only at he;cases hb:D1 lv len with
    |none=>grind
    |some z=>
     simp only[hb,bA1,bA3]at he;obtain⟨rfl,rfl,rfl⟩:=he;obtain⟨a1,a2⟩:=D8 (P:=P) hb h1 (bC4 _) .sliceB;exact⟨a1,p,bC4 _,fun w=>by simp[Instr.sliceBounds,a2]⟩
  |some s=>
   cases hi' with
   |none=>exact h2.elim
   |some t=>
   simp only at he;cases f:D1 s g with
   |none=>grind
   |some h0=>
    simp only[f]at he;obtain⟨i,j⟩:=D8 (P:=P) f h2 hc (if isS then .sliceAcap else .sliceAlen)
    cases lo with
    |none=>
     cases lo' with
     |some _=>exact h1.elim
     |none=>
     cases he;exact⟨by omega,i,bC4 _,fun w=>by simp[Instr.sliceBounds,j]⟩
    |some lv=>
     cases lo' with
     |none=>exact h1.elim
     |some q=>
     simp only at he;cases hb:D1 lv h0 with
     |none=>grind
     |some z=>
      simp only[hb,bA1,bA3]at he;obtain⟨rfl,rfl,rfl⟩:=he;obtain⟨a1,a2⟩:=D8 (P:=P) hb h1 (bC4 _) .sliceB;exact⟨a1,i,bC4 _,fun w=>by simp[Instr.sliceBounds,j,a2]⟩
 |some mv=>
  cases mx' with
  |none=>exact h3.elim
  |some C=>
  simp only at he;cases n:D1 mv g with
  |none=>grind
  |some A=>
   simp only[n,bE6,bE3]at he;obtain⟨u,y⟩:=D8 (P:=P) n h3 hc (if isS then .slice3Acap else .slice3Alen)
   cases hi with
   |none=>simp at he
   |some s=>
    cases hi' with
    |none=>exact h2.elim
    |some t=>
    simp only at he;cases f:D1 s A with
    |none=>grind
    |some h0=>
     simp only[f]at he;obtain⟨i,j⟩:=D8 (P:=P) f h2 (bC4 _) .slice3B;cases lo with
     |none=>
      cases lo' with
      |some _=>exact h1.elim
      |none=>
      cases he;exact⟨by omega,i,u,fun w=>by simp[Instr.sliceBounds,j,y]⟩
     |some lv=>
      cases lo' with
      |none=>exact h1.elim
      |some q=>
      simp only at he;cases hb:D1 lv h0 with
      |none=>grind
      |some z=>
       simp only[hb,bA1,bA3]at he;obtain⟨rfl,rfl,rfl⟩:=he;obtain⟨a1,a2⟩:=D8 (P:=P) hb h1 (bC4 _) .slice3C;exact⟨a1,i,u,fun w=>by simp[Instr.sliceBounds,j,y,a2]⟩
def o9 (P : Program) (hp : Hp) (t : TypeId) (x : Value) (lo hi mx : Option Value) : Option (Value × Hp) :=
 match P.underlying t with
 |some .string=>match x with
  | .string s=>match mx with
   |some _=>none
   |none=>match v6 s.data.toList.length s.data.toList.length lo hi none with
    |some (l,h,_)=>some (.string ⟨((s.data.toList.take h).drop l).toArray⟩,hp)
    |none=>none
  |_=>none
 | some (.slice e) => match P.info? e with
  |none=>none
  | some ie => match x with
   | .slice none len cap => bif Nat.beq len 0 && Nat.beq cap 0 then
     match v6 0 0 lo hi mx with
     |some _=>some (.slice none 0 0,hp)
     |none=>none
    else none
   | .slice (some ⟨0,0,some 0⟩) 0 _=>match v6 0 0 lo hi mx with
    |some (_,_,none)=>some (.slice (some ⟨0,0,some 0⟩) 0 unk,hp)
    |_=>none
   | .slice (some ⟨i, o, none⟩) len cap =>
    bif Nat.ble unk cap then
     bif Nat.ble (Nat.max (G4 cap) len) 67108864 then
     match v6 len (Nat.max (G4 cap) len) lo hi mx with
     |none=>none
     | some (l, h, some m) => bif Nat.beq m l then some (.slice (some ⟨i, o, none⟩) (h - l) (m - l), hp)
       else some (.slice (some ⟨i,o+l*ie.size,none⟩) (h-l) (m-l),hp)
     | some (l, h, none) => bif Nat.beq l 0 then some (.slice (some ⟨i, o, none⟩) h (g9 (Nat.max (G4 cap) len) (B4 cap)), hp) else
       bif Nat.beq l (Nat.max (G4 cap) len)then some (.slice (some ⟨0,0,some 0⟩) 0 unk,hp)
       else match hp.m.get i with
        |some (.cells _ _ _ z')=>bif Nat.beq z' ie.size then some (.slice (some ⟨i,o+l*ie.size,none⟩) (h-l) (g9 (Nat.max (G4 cap) len-l) (B4 cap-l)),hp)else none
        |_=>none
     else none
    else bif Nat.ble len cap then
     match v6 len cap lo hi mx with
     |none=>none
     | some (l, h, m) => bif Nat.beq (m.getD cap) l then some (.slice (some ⟨i, o, none⟩) (h - l) (m.getD cap - l), hp)
       else some (.slice (some ⟨i,o+l*ie.size,none⟩) (h-l) (m.getD cap-l),hp)
    else none
   |_=>none
 | some (.array n e) => match P.info? e with
  |none=>none
  | some ie => match x with
   | .pointer (some ⟨i, o, none⟩) => bif Nat.ble n 16777216 then
     match v6 n n lo hi mx with
     |none=>none
     | some (l, h, m) => bif Nat.beq (m.getD n) l then some (.slice (some ⟨i, o, none⟩) (h - l) (m.getD n - l), hp)
       else some (.slice (some ⟨i,o+l*ie.size,none⟩) (h-l) (m.getD n-l),hp)
    else none
   |_=>none
 |_=>none
theorem ai6 (s:ByteArray)(l h:Nat):s.extract l h=⟨((s.data.toList.take h).drop l).toArray⟩:=by
 apply ByteArray.ext
 rw[ByteArray.data_extract]
 grind
theorem aL7 {t : TypeId}    {hp' : Hp} (h : o9 P hp t x lo hi mx = some (v, hp'))
  (hx:VR σ x x') (h1:OVR σ lo lo') (h2:OVR σ hi hi') (h3:OVR σ mx mx') (D:HR B w0 σ hp w):
  MOK hp B w0 σ v hp' ((Instr.sliceAt t x' lo' hi' mx').run P w):=by
 unfold o9 at h;split at h
 ·rename_i J
  split at h
  ·rename_i s
   cases hx;split at h
   ·cases h
   ·cases mx' with
    |some _=>exact h3.elim
    |none=>
    split at h
    ·rename_i l hh m hb
     cases h;obtain⟨_,_,_,a4⟩:=v9 (P:=P) (cap:=s.size) hb h1 h2 (show OVR σ none none from trivial) (by simp) (bC4 _) false
     rw[show s.data.toList.length=s.size by simp]at a4
     refine⟨σ,_,w,?_,Sg.gr_refl _ σ,.string _,D⟩;simp only[Instr.sliceAt,bD0,bC5 J,bC6,Instr.slice,Option.isSome_none,bH1,if_false,bD5,a4,ai6]
    ·cases h
  ·cases h
 ·rename_i e  J
  split at h
  ·cases h
  rename_i ie E;split at h
  ·rename_i len cap
   cases hb:Nat.beq len 0&&Nat.beq cap 0 with
   |false=>grind
   |true=>
    rw[hb,bB8]at h;simp only[bA2]at hb;have e1:=bA6 hb.1;have e2:=bA6 hb.2;subst e1;subst e2;cases hx;split at h
    ·rename_i Z g
     obtain⟨l,hh,m⟩:=Z;cases h;obtain⟨a1,a2,a3,a4⟩:=v9 (P:=P) (cap:=0) g h1 h2 h3 (bC4 _) (bC4 _) true;have u:l=0:=by omega
     have I:hh=0:=by omega
     have Y:m.getD 0=0:=by omega
     subst u;subst I;rw[Y]at a4;refine⟨σ,_,w,?_,Sg.gr_refl _ σ,.nils 0 0,D⟩;simp only[Instr.sliceAt,bD0,bC5 J,bC6,Instr.slice,a4,sizeOf,typeInfo,bJ4,E,bD5,bI6,bJ7]
    ·cases h
  ·rename_i cap
   split at h
   ·rename_i l hh g
    cases h;cases hx with
    |vague q c'=>
     obtain⟨a1,a2,a3,a4⟩:=v9 (P:=P) (cap:=c') g h1 h2 h3 (bI9 _) (bC4 _) true;simp only[Option.getD_none]at a2 a3 a4;have u:l=0:=by omega
     have I:hh=0:=by omega
     subst u;subst I;refine⟨σ,.slice (some q) 0 c',w,?_,Sg.gr_refl _ σ,.vague q c',D⟩;have hq:(q.add 0)=q:=by simp[Addr.add]
     simp only[Instr.sliceAt,bD0,bC5 J,bC6,Instr.slice,a4,sizeOf,typeInfo,bJ4,E,bD5,bJ7,bI0,Nat.zero_mul,bE6,hq,ite_self]
   ·cases h
  ·rename_i i o len cap
   cases hx with
   |slice _ _ p _ _ c' j ad Q=>
   have runs : ∀ (l hh m : Nat), (∀ w, (Instr.sliceBounds true len c' lo' hi' mx').run P w = .ok (l, hh, m) w) →
     (Instr.sliceAt t (.slice (some ⟨p.blk,p.dl+o,none⟩) len c') lo' hi' mx').run P w= .ok (.slice (some (if m=l then⟨p.blk,p.dl+o,none⟩else⟨p.blk,p.dl+(o+l*ie.size),none⟩)) (hh-l) (m-l)) w:=by
    intro l hh m a4;simp only[Instr.sliceAt,bD0,bC5 J,bC6,Instr.slice,a4,sizeOf,typeInfo,bJ4,E,bD5]
    by_cases f:m=l
    ·simp[f]
    ·simp[f,bI7,bG0]
   cases A:Nat.ble unk cap with
   |true=>
    rw[A,bB8]at h;have A:=bA5 A;obtain⟨N,M,G⟩:G4 cap<=c'/\(B4 cap=0\/c'<B4 cap)/\p.dl+o+c'*p.esz<=p.siz:=by
     grind
    have O:B4 cap<unk:=Nat.mod_lt _ I3;have S:Nat.max (G4 cap) len<=c':=Nat.max_le.2 ⟨N,Q⟩;have H:len<=Nat.max (G4 cap) len:=Nat.le_max_right _ _;generalize ac:Nat.max (G4 cap) len=L at h S H;cases F:Nat.ble L 67108864 with
    |false=>grind
    |true=>
    rw[F,bB8]at h;have F:=bA5 F;split at h
    ·cases h
    ·rename_i l hh m g
     obtain⟨a1,a2,a3,a4⟩:=v9 (P:=P) (cap:=c') g h1 h2 h3 S H true;simp only[bE3]at a2 a3 a4;have hr:=runs l hh m a4;have z:m-l<unk:=by unfold unk;omega
     cases f:Nat.beq m l with
     |true=>
      rw[f,bB8]at h;have f:=bA6 f;subst f;cases h;rw[bC3 rfl]at hr;exact⟨σ,_,w,hr,Sg.gr_refl _ σ,.slice i o p _ _ _ j (.inl ⟨rfl,z⟩) (by omega),D⟩
     |false=>
      rw[f,bB9]at h;have y:m≠l:=fun e=>by rw[e,l8 rfl]at f;cases f
      cases h;rw[bC1 y]at hr;exact⟨σ,_,w,hr,Sg.gr_refl _ σ,.slice i _ p _ _ _ j (.inl ⟨rfl,z⟩) (by omega),D⟩
    ·rename_i l hh g
     obtain⟨a1,a2,a3,a4⟩:=v9 (P:=P) (cap:=c') g h1 h2 h3 S H true;simp only[Option.getD_none]at a2 a3 a4;have hr:=runs l hh c' a4;cases u:Nat.beq l 0 with
     |true=>
      rw[u,bB8]at h;have u:=bA6 u;subst u;cases h;simp only[Nat.zero_mul,bG6,ite_self,bI0]at hr;exact⟨σ,_,w,hr,Sg.gr_refl _ σ,.slice i o p _ _ _ j (.inr ⟨u9 _ _,by rw[L8 O];exact S,by rw[L7 O];exact M,G⟩) (by omega),D⟩
     |false=>
      rw[u,bB9]at h;cases C:Nat.beq l L with
      |true=>
       rw[C,bB8]at h;have C:=bA6 C;have W:hh=l:=by omega
       subst W;cases h;rw[bJ7]at hr;exact⟨σ,_,w,hr,Sg.gr_refl _ σ,.vague _ _,D⟩
      |false=>
       rw[C,bB9]at h;have ab:l≠L:=fun e=>by rw[e,l8 rfl]at C;cases C
       split at h
       case h_2=>cases h
       rename_i tc k e' z' hg;obtain⟨k1,k2⟩:=D.place hg j;cases R:Nat.beq z' ie.size with
       |false=>grind
       |true=>
        rw[R,bB8]at h;have ae:=bA6 R;have V:p.esz=ie.size:=by grind
        cases h;have U:c'≠l:=by omega
        rw[bC1 U]at hr;refine⟨σ,_,w,hr,Sg.gr_refl _ σ,.slice i _ p _ _ _ j (.inr ⟨u9 _ _,by rw[L8 (by omega)];omega,by rw[L7 (by omega)];omega,?_⟩) (by omega),D⟩
        rw[V]at G⊢;have:l*ie.size+(c'-l)*ie.size=c'*ie.size:=by rw[<-bD7];congr 1;omega
        omega
   |false=>
    rw[A,bB9]at h;have aa:¬unk<=cap:=fun h=>by rw[bA8 h]at A;cases A
    have K:cap=c'/\cap<unk:=by grind
    obtain⟨rfl,T⟩:=K;cases X:Nat.ble len cap with
    |false=>grind
    |true=>
    rw[X,bB8]at h;split at h
    ·cases h
    ·rename_i l hh m g
     obtain⟨a1,a2,a3,a4⟩:=v9 (P:=P) (cap:=cap) g h1 h2 h3 (bC4 _) Q true;have hr:=runs l hh (m.getD cap) a4;have z:m.getD cap-l<unk:=by omega
     cases f:Nat.beq (m.getD cap) l with
     |true=>
      rw[f,bB8]at h;have f:=bA6 f;cases h;rw[bC3 f]at hr;exact⟨σ,_,w,hr,Sg.gr_refl _ σ,.slice i o p _ _ _ j (.inl ⟨rfl,z⟩) (by omega),D⟩
     |false=>
      rw[f,bB9]at h;have y:m.getD cap≠l:=fun e=>by rw[e,l8 rfl]at f;cases f
      cases h;rw[bC1 y]at hr;exact⟨σ,_,w,hr,Sg.gr_refl _ σ,.slice i _ p _ _ _ j (.inl ⟨rfl,z⟩) (by omega),D⟩
  ·cases h
 ·rename_i n e J
  split at h
  ·cases h
  rename_i ie E;split at h
  ·rename_i i o
   cases hx with
   |ptr _ _ p j=>
   cases hn:Nat.ble n 16777216 with
   |false=>grind
   |true=>
   rw[hn,bB8]at h;have hn:=bA5 hn;split at h
   ·cases h
   ·rename_i l hh m g
    obtain⟨a1,a2,a3,a4⟩:=v9 (P:=P) (cap:=n) g h1 h2 h3 (bC4 _) (bC4 _) false;have hr:(Instr.sliceAt t (.pointer (some ⟨p.blk,p.dl+o,none⟩)) lo' hi' mx').run P w= .ok (.slice (some (if m.getD n=l then⟨p.blk,p.dl+o,none⟩else⟨p.blk,p.dl+(o+l*ie.size),none⟩)) (hh-l) (m.getD n-l)) w:=by
     simp only[Instr.sliceAt,bD0,bC5 J,bC6,Instr.sureAddr,a4,sizeOf,typeInfo,bJ4,E,bD5]
     by_cases f:m.getD n=l
     ·simp[f]
     ·simp[f,bI7,bG0]
    have z:m.getD n-l<unk:=by unfold unk;omega
    cases f:Nat.beq (m.getD n) l with
    |true=>
     rw[f,bB8]at h;have f:=bA6 f;cases h;rw[bC3 f]at hr;exact⟨σ,_,w,hr,Sg.gr_refl _ σ,.slice i o p _ _ _ j (.inl ⟨rfl,z⟩) (by omega),D⟩
    |false=>
     rw[f,bB9]at h;have y:m.getD n≠l:=fun e=>by rw[e,l8 rfl]at f;cases f
     cases h;rw[bC1 y]at hr;exact⟨σ,_,w,hr,Sg.gr_refl _ σ,.slice i _ p _ _ _ j (.inl ⟨rfl,z⟩) (by omega),D⟩
  ·cases h
 ·cases h
end
end Go.Xe
end PartXm9
noncomputable section PartXmM
namespace Go.Xe
open Go.RowKit
section
variable {P :Program}{B:BS}{w0:World}{σ:Sg}{hp:Hp}{w:World}
def aB1 (hp : Hp) (it : Value) (isString : Bool) : Option (Value × Hp) :=
 match it,isString with
 | .pointer (some ⟨i, 0, none⟩), true => match hp.m.get i with
  | some (.sit s pos) => bif Nat.blt pos s.data.toList.length then
    some (.tuple #[.bool true,.int .i64 pos,.int .i32 (Utf8.decode s pos).1],{hp with m:=hp.m.set i (some (.sit s (pos+(Utf8.decode s pos).2)))})
   else some (.tuple #[.bool false],hp)
  |_=>none
 |_,_=>none
variable {a b:Value}
theorem VR.tup1 {σ:Sg}(h:VR σ a b):VR σ (.tuple #[a]) (.tuple #[b]):=(VRL.cons h (VRL.nil σ)).to_tuple
variable {c d:Value}
theorem VR.tup2 {σ:Sg}(h:VR σ a b)(k:VR σ c d):VR σ (.tuple #[a,c]) (.tuple #[b,d]):=(VRL.cons h (VRL.cons k (VRL.nil σ))).to_tuple
theorem VR.tup3 {σ:Sg}{e f:Value}(h:VR σ a b)(k:VR σ c d)(l:VR σ e f):VR σ (.tuple #[a,c,e]) (.tuple #[b,d,f]):=(VRL.cons h (VRL.cons k (VRL.cons l (VRL.nil σ)))).to_tuple
variable {o:Obj}
theorem G3 {r:Nat}(h:w.heap[r]? =some o)(hc:∀c e f,o≠ .cells c e f):(getObj r).run P w= .ok o w:=by
 simp only[getObj,Sem.run,h]
theorem O8 {r:Nat}{o':Obj}(h:w.heap[r]? =some o)(hc:∀c e f,o≠ .cells c e f):(setObj r o').run P w= .ok () {w with heap:=w.heap.setIfInBounds r o'}:=by
 simp only[setObj,Sem.run,h]
theorem HR.setO (h : HR B w0 σ hp w) {i : Nat} {b b' : Blk} ( l : hp.m.get i = some b) {p : Pl} (  f : σ i = some p)  (hb : BR σ p b' o) (  j : P4 b = false := by rfl) (   g : P4 b' = false := by rfl) :
  HR B w0 σ {hp with m:=hp.m.set i (some b')} {w with heap:=w.heap.setIfInBounds p.blk o}:=by
 obtain⟨p',o',n,_,q,_⟩:=h.live i b l;have:p'=p:=bC7 (n.symm.trans f);subst this;have hlt:=(bB6.1 q).1;refine h.turn l f ?_ (fun k hk=>?_) (by simp) rfl rfl rfl hb j g
 ·simp[hlt]
 ·grind
variable {v:Value}{hp':Hp}
theorem aT0 { A   l:Value} {isS : Bool}  (h : aB1 hp  A isS = some (v, hp')) (hi : VR σ  A   l) ( t : HR B w0 σ hp w) (ty : TypeId) :
  MOK hp B w0 σ v hp' ((Instr.next l isS ty).run P w):=by
 unfold aB1 at h;split at h
 ·rename_i i
  cases hi with
  |ptr _ _ p q=>
  split at h
  ·rename_i s pos z
   obtain⟨p',o,u,D,y,C,n⟩:=t.live i _ z;have:p'=p:=bC7 (u.symm.trans q);subst this;subst C;have j:=G3 (P:=P) y (fun c e f h=>by cases h)
   cases hlt:Nat.blt pos s.data.toList.length with
   |true=>
    rw[hlt,bB8]at h;cases h;have g:pos<s.size:=by simp_all
    have hset:=O8 (P:=P) (o':= .stringIter s (pos+(Utf8.decode s pos).2)) y (fun c e f h=>by cases h)
    refine⟨σ,_,_,?_,Sg.gr_refl _ σ,VR.tup3 (.bool true) (.int .i64 pos) (.int .i32 _),t.setO z u (b':= .sit s (pos+(Utf8.decode s pos).2)) ⟨rfl,n⟩⟩;simp[Instr.next,n,j,g,hset,goInt]
   |false=>
    rw[hlt,bB9]at h;cases h;have g:¬pos<s.size:=by
     intro hc;rw[show Nat.blt pos s.data.toList.length=true from bA8 (by simp;omega)]at hlt
     cases hlt
    refine⟨σ,_,w,?_,Sg.gr_refl _ σ,VR.tup1 (.bool false),t⟩;simp[Instr.next,n,j,g]
  ·cases h
 ·cases h
def aT5 (kind:TypeDesc)(a b:Value):Option Bool:=
 match kind,a,b with
 | .int _,.int k x,.int k' y=>bif decide (k=k')then some (decide (x=y))else none
 | .string,.string x,.string y=>some (x.data.toList==y.data.toList)
 | .bool,.bool x,.bool y=>some (x==y)
 |_,_,_=>none
variable {a' b':Value}
theorem ar9 {   f : TypeDesc}  {r : Bool} (h : aT5    f a b = some r) ( i : VR σ a a') (hb : VR σ b b') :
  Instr.sameNow f a' b'=some r/\(r=true->a=b/\Instr.sameBits 10000 b' a'=true):=by
 unfold aT5 at h;split at h
 ·rename_i k0 k x k' y
  cases i;cases hb;cases hk:decide (k=k')with
  |false=>grind
  |true=>
   rw[hk]at h;simp only[bC2]at hk;subst hk;simp only[bB8,bA1]at h;subst h;refine⟨?_,fun hr=>?_⟩
   ·simp only[Instr.sameNow,bI6];congr 1
   ·simp only[bC2]at hr
    subst hr;exact⟨rfl,by simp[Instr.sameBits]⟩
 ·rename_i x y
  cases i;cases hb;cases h;have e:(x==y)=(x.data.toList==y.data.toList):=by rw[beq_toListBytes,bJ5,bJ5]
  refine⟨by simp only[Instr.sameNow,e],fun hr=>?_⟩
  have g:x=y:=by
   obtain⟨⟨x⟩⟩:=x
   simp_all
  subst g;exact⟨rfl,by simp only[Instr.sameBits,e,hr]⟩
 ·rename_i x y
  cases i;cases hb;cases h;refine⟨rfl,fun hr=>?_⟩
  have g:x=y:=by grind
  subst g;exact⟨rfl,by simp[Instr.sameBits]⟩
 ·cases h
def ar4 (kind:TypeDesc)(k:Value):List (Value×Value)->Nat->Option (Option (Nat×Value))
 | [],_=>some none
 |e::es,i=>match aT5 kind k e.1 with
  |some true=>some (some (i,e.2))
  |some false=>ar4 kind k es (i+1)
  |none=>none
theorem ar5 {   f : TypeDesc} {k k' : Value} (hk : VR σ k k') : ∀ {es : List (Value × Value)} {ents : List MapEntry} {i : Nat} {r : Option (Nat × Value)}, ar4    f k es i = some r →
  es.length=ents.length->(∀(j:Nat) x e,es[j]? =some x->ents[j]? =some e->VR σ x.1 e.key/\VR σ x.2 e.val)->
  (r=none->Instr.findNow f k' ents i=some none)/\
  (∀n v,r=some (n,v)->i<=n/\ ∃u x e,Instr.findNow f k' ents i=some (some (n,u))/\VR σ v u/\es[n-i]? =some x/\ents[n-i]? =some e/\x=(k,v)/\Instr.sameBits 10000 e.key k'=true)
 | [],ents,i,r,h,hl,_=>by
  simp only[ar4,bA1]at h;subst h;have:ents=[]:=bA7 hl.symm;subst this;exact⟨fun _=>rfl,(fun n v h=>by cases h)⟩
 |x::es,[],i,r,h,hl,_=>by simp at hl
 |x::es,e::ents,i,r,h,hl,hr=>by
  obtain⟨h1,h2⟩:=hr 0 x e rfl rfl;simp only[ar4]at h;split at h
  ·rename_i hs
   obtain⟨s1,s2⟩:=ar9 hs hk h1;obtain⟨t,y⟩:=s2 rfl;cases h;refine⟨(fun h=>by cases h),fun n v h=>?_⟩
   cases h;exact⟨bC4 _,e.val,x,e,by simp only[Instr.findNow,s1],h2,by simp,by simp,by rw[t],y⟩
  ·rename_i hs
   obtain⟨s1,_⟩:=ar9 hs hk h1;obtain⟨i1,l⟩:=ar5 (ents:=ents) hk h (by simpa using hl) (fun j x' e' hx he=>hr (j+1) x' e' (by simpa using hx) (by simpa using he))
   refine⟨fun hn=>by simp only[Instr.findNow,s1];exact i1 hn,fun n v g=>?_⟩
   obtain⟨z,u,x',e',p,q,A,C,s⟩:=l n v g;refine⟨by omega,u,x',e',by simp only[Instr.findNow,s1];exact p,q,?_,?_,s⟩
   ·grind
   ·grind
  ·cases h
def aI3 (d:TypeDesc):Bool:=
 match d with
 | .int _| .string| .bool=>true
 |_=>false
theorem aJ2 {t:TypeId}{d:TypeDesc}(f:P.underlying t=some d)(hk:aI3 d=true)(b:Bool)(v:Value):(Instr.checkKey b 10000 t v).run P w= .ok () w:=by
 show(Instr.checkKey b (9999+1) t v).run P w= .ok () w;unfold Instr.checkKey;simp only[bD0,bC5 f,bC6];cases d<;>simp[aI3]at hk<;>rfl
def af5 (P:Program)(cs:List Value):List Field->Bool
 | []=>true
 |f::fs=>match P.underlying f.type,U5 P f.type cs f.offset with
  |some d,some _=>aI3 d&&af5 P cs fs
  |_,_=>false
def aB5 :List Value->List Value->Bool
 | [],[]=>true
 | .int k x::xs,.int k' y::ys=>decide (k=k')&&decide (x=y)&&aB5 xs ys
 | .bool x::xs,.bool y::ys=>(x==y)&&aB5 xs ys
 | .string x::xs,.string y::ys=>(x.data.toList==y.data.toList)&&aB5 xs ys
 |_,_=>false
def xsb (a b:Value):Bool:=
 match a,b with
 | .agg xs,.agg ys=>aB5 xs.toList ys.toList
 |_,_=>false
theorem aZ9 : ∀ {xs ys   f   g : List Value}, aB5 xs ys = true → VRL σ xs   f → VRL σ ys   g →
  f.length=g.length/\(f.zip g).all (fun p=>Instr.sameBits 9999 p.1 p.2)=true:=by
 intro xs
 induction xs with
 |nil=>
  intro ys f g h hx hy;cases ys with
  |nil=>rw[hx.unnil,hy.unnil];exact⟨rfl,rfl⟩
  |cons y ys=>simp[aB5]at h
 |cons x xs z=>
  intro ys f g h hx hy;cases ys with
  |nil=>cases x<;>simp[aB5]at h
  |cons y ys=>
   obtain⟨x',f,rfl,l,n⟩:=hx.uncons;obtain⟨A,g,rfl,q,s⟩:=hy.uncons;unfold aB5 at h;split at h
   ·grind
   ·rename_i k a _ k' b _ i j
    simp only[bG9]at i j;obtain⟨rfl,rfl⟩:=i;obtain⟨rfl,rfl⟩:=j;simp only[bA2,bC2]at h;obtain⟨⟨rfl,rfl⟩,h⟩:=h;obtain⟨t,u⟩:=z h n s;cases l;cases q;exact⟨by simp[t],by simp only[List.zip_cons_cons,List.all_cons,u,bI4];simp[Instr.sameBits]⟩
   ·rename_i a _ b _ i j
    simp only[bG9]at i j;obtain⟨rfl,rfl⟩:=i;obtain⟨rfl,rfl⟩:=j;simp only[bA2]at h;obtain⟨h1,h⟩:=h;obtain⟨t,u⟩:=z h n s;cases l;cases q;exact⟨by simp[t],by simp only[List.zip_cons_cons,List.all_cons,u,bI4];simpa [Instr.sameBits]using h1⟩
   ·rename_i a _ b _ i j
    simp only[bG9]at i j;obtain⟨rfl,rfl⟩:=i;obtain⟨rfl,rfl⟩:=j;simp only[bA2]at h;obtain⟨h1,h⟩:=h;obtain⟨t,u⟩:=z h n s;cases l;cases q;have e:(a==b)=(a.data.toList==b.data.toList):=by rw[beq_toListBytes,bJ5,bJ5]
    exact⟨by simp[t],by simp only[List.zip_cons_cons,List.all_cons,u,bI4];simp only[Instr.sameBits,e,h1]⟩
   ·cases h
theorem bj7 (h:xsb a b=true)(f:VR σ a a')(hb:VR σ b b'):Instr.sameBits 10000 a' b'=true:=by
 unfold xsb at h;split at h
 ·obtain⟨g,rfl,hx⟩:=VRL.of_agg f
  obtain⟨i,rfl,hy⟩:=VRL.of_agg hb;obtain⟨j,l⟩:=aZ9 h hx hy;show Instr.sameBits (9999+1) _ _=true;simp only[Instr.sameBits,bA2,beq_iff_eq]
  grind
 ·cases h
def W5 (P:Program)(kt:TypeId)(k:Value):List (Value×Value)->Nat->Option (Option (Nat×Value))
 | [],_=>some none
 |e::es,i=>match xeq P 10000 kt k e.1 with
  |some true=>bif xsb e.1 k then some (some (i,e.2))else none
  |some false=>W5 P kt k es (i+1)
  |none=>none
def P1 (P:Program)(kt:TypeId)(d:TypeDesc)(k:Value)(es:List (Value×Value)):Option (Option (Nat×Value)):=
 match d with
 | .struct fs=>match k with
  | .agg cs=>bif af5 P cs.toList fs.toList then W5 P kt k es 0 else none
  |_=>none
 |d=>bif aI3 d then ar4 d k es 0 else none
theorem al7 {kt : TypeId} {k k' : Value} (hk : VR σ k k') (w : World) : ∀ {es : List (Value × Value)} {ents : List MapEntry} {i : Nat} {r : Option (Nat × Value)}, W5 P kt k es i = some r →
  es.length=ents.length->(∀(j:Nat) x e,es[j]? =some x->ents[j]? =some e->VR σ x.1 e.key/\VR σ x.2 e.val)->
  (r=none->(Instr.findAsking kt k' ents i).run P w= .ok none w)/\
  (∀n v,r=some (n,v)->i<=n/\ ∃u x e,(Instr.findAsking kt k' ents i).run P w= .ok (some (n,u)) w/\VR σ v u/\es[n-i]? =some x/\ents[n-i]? =some e/\Instr.sameBits 10000 e.key k'=true)
 | [],ents,i,r,h,hl,_=>by
  simp only[W5,bA1]at h;subst h;have:ents=[]:=bA7 hl.symm;subst this;exact⟨fun _=>by simp[Instr.findAsking],(fun n v h=>by cases h)⟩
 |x::es,[],i,r,h,hl,_=>by simp at hl
 |x::es,e::ents,i,r,h,hl,hr=>by
  obtain⟨h1,h2⟩:=hr 0 x e rfl rfl;simp only[W5]at h;split at h
  ·rename_i hs
   have s1:(Op.equal kt k' e.key).run P w= .ok true w:=ao8 10000 kt k x.1 true hs k' e.key hk h1 w;cases hb:xsb x.1 k with
   |false=>grind
   |true=>
   rw[hb,bB8]at h;cases h;refine⟨(fun h=>by cases h),fun n v h=>?_⟩
   cases h;exact⟨bC4 _,e.val,x,e,by simp only[Instr.findAsking,bD0,s1,bC6,bI6,bD5],h2,by simp,by simp,bj7 hb h1 hk⟩
  ·rename_i hs
   have s1:(Op.equal kt k' e.key).run P w= .ok false w:=ao8 10000 kt k x.1 false hs k' e.key hk h1 w;obtain⟨i1,f⟩:=al7 (ents:=ents) hk w h (by simpa using hl) (fun j x' e' hx he=>hr (j+1) x' e' (by simpa using hx) (by simpa using he))
   have step:(Instr.findAsking kt k' (e::ents) i).run P w=(Instr.findAsking kt k' ents (i+1)).run P w:=by
    simp only[Instr.findAsking,bD0,s1,bC6,bH1,if_false]
   grind
  ·cases h
theorem aC1 {t : TypeId} { g : Array Field} ( h : P.underlying t = some (.struct  g)) {cs : List Value} {cs' : Array Value} (hc : VRL σ cs cs'.toList) (hk : af5 P cs  g.toList = true) (b : Bool) (w : World) :
  (Instr.checkKey b 10000 t (.agg cs')).run P w= .ok () w:=by
 have key : ∀ (l : List Field), af5 P cs l = true → (forIn l PUnit.unit (fun f _ => do
   if f.name≠ "_" then Instr.checkKey b 9999 f.type (<-part f.type cs' f.offset)
   pure (ForInStep.yield PUnit.unit)):Sem PUnit).run P w= .ok PUnit.unit w:=by
  intro l
  induction l with
  |nil=>intro _;simp
  |cons f l j=>
   intro hl;simp only[af5]at hl;split at hl
   ·rename_i d v hd hp
    simp only[bA2]at hl;obtain⟨u,_,h⟩:=M3 hp hc;have i:∀v,(Instr.checkKey b 9999 f.type v).run P w= .ok () w:=by
     intro v;show(Instr.checkKey b (9998+1) f.type v).run P w= .ok () w;unfold Instr.checkKey;simp only[bD0,bC5 hd,bC6];have:=hl.1;cases d<;>simp[aI3]at this<;>rfl
    simp_all
   ·cases hl
 show(Instr.checkKey b (9999+1) t (.agg cs')).run P w= .ok () w;unfold Instr.checkKey;simp only[bD0,bC5 h,bC6];have:=key g.toList hk
 simp_all
variable {k k':Value}
theorem A7 {kt : TypeId} {d : TypeDesc} (hd : P.underlying kt = some d)  (hk : VR σ k k') {es : List (Value × Value)} {ents : List MapEntry} {r : Option (Nat × Value)} (h : P1 P kt d k es = some r)
  (hl:es.length=ents.length) (hr:∀(j:Nat) x e,es[j]? =some x->ents[j]? =some e->VR σ x.1 e.key/\VR σ x.2 e.val) (w:World):
  (∀b,(Instr.checkKey b 10000 kt k').run P w= .ok () w)/\(r=none->(Instr.findKey kt k' ents).run P w= .ok none w)/\
  (∀n v,r=some (n,v)-> ∃u x e,(Instr.findKey kt k' ents).run P w= .ok (some (n,u)) w/\VR σ v u/\es[n]? =some x/\ents[n]? =some e/\Instr.sameBits 10000 e.key k'=true):=by
 unfold P1 at h;split at h
 ·rename_i y
  split at h
  ·rename_i cs
   obtain⟨cs',rfl,l⟩:=VRL.of_agg hk;cases hb:af5 P cs.toList y.toList with
   |false=>grind
   |true=>
   rw[hb,bB8]at h;obtain⟨i,q⟩:=al7 hk w h hl hr;have p:(Instr.findKey kt (.agg cs') ents).run P w=(Instr.findAsking kt (.agg cs') ents 0).run P w:=by
    simp only[Instr.findKey,bD0,bC5 hd,bC6];cases ents with
    |nil=>simp[Instr.findNow,Instr.findAsking]
    |cons e ents=>simp[Instr.findNow,Instr.sameNow]
   refine⟨fun b=>aC1 hd l hb b w,fun hn=>by rw[p];exact i hn,fun n v g=>?_⟩
   grind
  ·cases h
 ·cases f:aI3 d with
  |false=>grind
  |true=>
   rw[f,bB8]at h;obtain⟨i,q⟩:=ar5 hk h hl hr;refine⟨fun b=>aJ2 hd f b k',fun hn=>?_,fun n v g=>?_⟩
   ·simp only[Instr.findKey,bD0,bC5 hd,bC6,i hn,bD5]
   ·obtain⟨_,u,x,e,z,A,s,t,_,C⟩:=q n v g
    rw[bI0]at s t;exact⟨u,x,e,by simp only[Instr.findKey,bD0,bC5 hd,bC6,z,bD5],A,s,t,C⟩
def w9 (P : Program) (hp : Hp) (t : TypeId) (x k : Value) (ok : Bool) : Option Value :=
 match P.underlying t with
 | some (.map kt et) => match P.underlying kt with
  | some d =>
    match(match x with
     | .map none=>some []
     | .map (some i)=>match hp.m.get i with
      |some (.map es _)=>some es
      |_=>none
     |_=>none)with
    |none=>none
    |some es=>match P1 P kt d k es with
     |some (some (_,v))=>some (bif ok then .tuple #[v,.bool true]else v)
     |some none=>match E1 P et with
      |some z=>some (bif ok then .tuple #[z,.bool false]else z)
      |none=>none
     |none=>none
  |none=>none
 |_=>none
variable {x x':Value}
theorem aD0 {t : TypeId}  {ok : Bool} (h : w9 P hp t x k ok = some v) (hx : VR σ x x') (hk : VR σ k k') ( O : HR B w0 σ hp w) :
  ∃u,VR σ v u/\(Instr.lookup t x' k' ok).run P w= .ok u w:=by
 unfold w9 at h;split at h
 ·rename_i kt  F  G
  split at h
  ·rename_i d hd
   have    q : ∀ (es : List (Value × Value)) (ents : List MapEntry), es.length = ents.length → (∀ (j : Nat) x e, es[j]? = some x → ents[j]? = some e → VR σ x.1 e.key ∧ VR σ x.2 e.val) →
     (match P1 P kt d k es with
      |some (some (_,v))=>some (bif ok then .tuple #[v,.bool true]else v)
      |some none=>match E1 P F with
       |some z=>some (bif ok then .tuple #[z,.bool false]else z)
       |none=>none
      |none=>none)=some v->
     (∀b,(Instr.checkKey b 10000 kt k').run P w= .ok () w)/\ ∃u,VR σ v u/\(do
      let(v,ok')<-match<-Instr.findKey kt k' ents with
       |some (_,v)=>pure (v,true)
       |none=>pure (<-zeroValue F,false)
      pure (if ok then .tuple #[v,.bool ok']else v):Sem Value).run P w= .ok u w:=by
    intro es ents hl hr h;split at h
    ·rename_i n R hf
     obtain⟨l,_,I⟩:=A7 hd hk hf hl hr w;obtain⟨u,U,S,D,y,_⟩:=I n R rfl;cases h;refine⟨l,if ok then .tuple #[u,.bool true]else u,?_,?_⟩
     ·cases ok
      ·exact y
      ·exact VR.tup2 y (.bool true)
     ·simp_all
    ·rename_i hf
     obtain⟨l,y,_⟩:=A7 hd hk hf hl hr w;have D:=y rfl;split at h
     ·rename_i z hz
      obtain⟨hc,Q⟩:=D4 hz;cases h;refine⟨l,if ok then .tuple #[z,.bool false]else z,?_,?_⟩
      ·cases ok
       ·exact M5 σ hc
       ·exact VR.tup2 (M5 σ hc) (.bool false)
      ·simp_all
     ·cases h
    ·cases h
   split at h
   ·cases h
   ·rename_i es g
    split at g
    ·simp only[bA1]at g
     subst g;cases hx;obtain⟨l,u,h1,h2⟩:=q [] [] rfl (fun j x e hx=>by simp at hx) h
     refine⟨u,h1,?_⟩;simp only[Instr.lookup,bD0,bC5 G,bC6,bD5,l]
     simp_all;omega
    ·rename_i i
     split at g
     ·rename_i C H N
      simp only[bA1]at g;subst g;cases hx with
      |map _ p E=>
      obtain⟨p',o,J,_,K,ents,A,rfl,L,M,T⟩:=O.live i _ N;have:p'=p:=bC7 (J.symm.trans E);subst this;have s:=G3 (P:=P) K (fun c e f h=>by cases h)
      obtain⟨l,u,h1,h2⟩:=q C ents.toList (by simpa using L.symm) (fun j x e hx he=>M j x e hx (by simpa using he)) h
      refine⟨u,h1,?_⟩;simp only[Instr.lookup,bD0,bC5 G,bC6,s,bD5,l]
      simp_all;omega
     ·cases g
    ·cases g
  ·cases h
 ·cases h
def Q4 (P : Program) (hp : Hp) (t : TypeId) (m k x : Value) : Option Hp :=
 match P.underlying t with
 | some (.map kt _) => match P.underlying kt with
  | some d =>
    match m with
    | .map (some i)=>match hp.m.get i with
     |some (.map es reg)=>match P1 P kt d k es with
      |some (some (n,_))=>some {hp with m:=hp.m.set i (some (.map (es.set n (k,x)) reg))}
      |some none=>some {hp with m:=hp.m.set i (some (.map (es++ [(k,x)]) reg))}
      |none=>none
     |_=>none
    |_=>none
  |none=>none
 |_=>none
variable {m m':Value}
theorem af6 {t : TypeId}   (h : Q4 P hp t m k x = some hp') (hm : VR σ m m') (hk : VR σ k k') (hx : VR σ x x') ( G : HR B w0 σ hp w) :
  ∃w',(Instr.mapUpdate t m' k' x').run P w= .ok () w'/\HR B w0 σ hp' w'/\hp'.nx=hp.nx:=by
 unfold Q4 at h;split at h
 ·rename_i kt O K
  split at h
  ·rename_i d hd
   split at h
   ·rename_i i
    cases hm with
    |map _ p F=>
    split at h
    ·rename_i es reg D
     obtain⟨p',o,A,_,I,ents,g,rfl,J,M,T⟩:=G.live i _ D;have:p'=p:=bC7 (A.symm.trans F);subst this;have l:=G3 (P:=P) I (fun c e f h=>by cases h)
     have hset:=fun o'=>O8 (P:=P) (o':=o') I (fun c e f h=>by cases h)
     have hl:es.length=ents.toList.length:=by grind
     have hr:∀(j:Nat) x e,es[j]? =some x->ents.toList[j]? =some e->VR σ x.1 e.key/\VR σ x.2 e.val:=fun j x e hx he=>M j x e hx (by simpa using he)
     split at h
     ·rename_i n N hf
      obtain⟨q,_,f0⟩:=A7 hd hk hf hl hr w;obtain⟨u,U,H,s,Q,R,S,L⟩:=f0 n N rfl;have C:ents[n]? =some H:=by grind
      cases h;have E:(Instr.keyThatStays H.key k').run P w= .ok k' w:=by
       simp only[Instr.keyThatStays,L,bI6,bD5]
      refine⟨_,?_,G.setO D A (b':= .map (es.set n (k,x)) reg) (o:= .map (ents.modify n fun e=> {e with key:=k',val:=x'}) g) ⟨_,_,rfl,by simp[J],fun j y e hy he=>?_,fun z=>?_⟩,rfl⟩
      ·simp only[Instr.mapUpdate,bD0,bC5 K,bC6,l,q,s,C,bE6,bE3,E,hset]
      ·grind
      ·grind
     ·rename_i hf
      obtain⟨q,f0,_⟩:=A7 hd hk hf hl hr w;have s:=f0 rfl;cases h;refine⟨_,?_,G.setO D A (b':= .map (es++ [(k,x)]) reg) (o:= .map (ents.push {key:=k',val:=x',born:=g}) (g+1)) ⟨_,_,rfl,by simp[J],fun j y e hy he=>?_,fun z=>?_⟩,rfl⟩
      ·simp only[Instr.mapUpdate,bD0,bC5 K,bC6,l,q,s,hset]
      ·grind
      ·grind
     ·cases h
    ·cases h
   ·cases h
  ·cases h
 ·cases h
def D9 (P : Program) (hp : Hp) (t : TypeId) (m k : Value) : Option (Value × Hp) :=
 match P.underlying t with
 | some (.map kt et) => match P.underlying kt with
  | some d =>
    match m with
    | .map (some i)=>match hp.m.get i with
     |some (.map es true)=>match P1 P kt d k es with
      |some (some (n,v))=>match es[n]? with
       |some y=>some (.tuple #[v,.int .i64 n],{hp with m:=hp.m.set i (some (.map (es.set n (k,y.2)) true))})
       |none=>none
      |some none=>match E1 P et with
       |some z=>some (.tuple #[z,.int .i64 es.length],{hp with m:=hp.m.set i (some (.map (es++ [(k,z)]) true))})
       |none=>none
      |none=>none
     |_=>none
    |_=>none
  |none=>none
 |_=>none
theorem at3 {t : TypeId}   (h : D9 P hp t m k = some (v, hp')) (hm : VR σ m m') (hk : VR σ k k') ( J : HR B w0 σ hp w) :
  MOK hp B w0 σ v hp' ((Instr.mapEntry t m' k').run P w):=by
 unfold D9 at h;split at h
 ·rename_i kt X M
  split at h
  ·rename_i d hd
   split at h
   ·rename_i i
    cases hm with
    |map _ p I=>
    split at h
    ·rename_i es F
     obtain⟨p',o,D,_,L,ents,g,rfl,E,T,U⟩:=J.live i _ F;have:p'=p:=bC7 (D.symm.trans I);subst this;obtain⟨N,O⟩:=U rfl;have l:=G3 (P:=P) L (fun c e f h=>by cases h)
     have hset:=fun o'=>O8 (P:=P) (o':=o') L (fun c e f h=>by cases h)
     have hl:es.length=ents.toList.length:=by grind
     have hr:∀(j:Nat) x e,es[j]? =some x->ents.toList[j]? =some e->VR σ x.1 e.key/\VR σ x.2 e.val:=fun j x e hx he=>T j x e hx (by simpa using he)
     split at h
     ·rename_i n V hf
      obtain⟨q,_,f0⟩:=A7 hd hk hf hl hr w;obtain⟨u,W,C,s,Q,R,Y,S⟩:=f0 n V rfl;have A:ents[n]? =some C:=by grind
      rw[R]at h;cases h;have H:(Instr.keyThatStays C.key k').run P w= .ok k' w:=by
       simp only[Instr.keyThatStays,S,bI6,bD5]
      refine⟨σ,.tuple #[u,goInt C.born],_,?_,Sg.gr_refl _ σ,?_,J.setO F D (b':= .map (es.set n (k,W.2)) true) (o:= .map (ents.modify n fun e=> {e with key:=k'}) g) ⟨_,_,rfl,by simp[E],fun j y e hy he=>?_,fun _=>?_⟩⟩
      ·simp only[Instr.mapEntry,bD0,bC5 M,bC6,l,q,s,A,bE6,bE3,H,hset,bD5]
      ·rw[O n C A]
       exact VR.tup2 Q (.int _ _)
      ·grind
      ·grind
     ·rename_i hf
      obtain⟨q,f0,_⟩:=A7 hd hk hf hl hr w;have s:=f0 rfl;split at h
      ·rename_i z hz
       obtain⟨hc,K⟩:=D4 hz;cases h;refine⟨σ,.tuple #[z,goInt g],_,?_,Sg.gr_refl _ σ,?_,J.setO F D (b':= .map (es++ [(k,z)]) true) (o:= .map (ents.push {key:=k',val:=z,born:=g}) (g+1)) ⟨_,_,rfl,by simp[E],fun j y e hy he=>?_,fun _=>?_⟩⟩
       ·simp only[Instr.mapEntry,bD0,bC5 M,bC6,l,q,s,K,hset,bD5]
       ·rw[N,E]
        exact VR.tup2 (M5 σ hc) (.int _ _)
       ·rw[List.getElem?_append]at hy
        rw[Array.getElem?_push]at he
        by_cases hj:j<es.length
        ·grind
        ·rw[bC1 hj]at hy
         have G:j-es.length=0:=by grind
         rw[G]at hy;simp only[bB7,bA1]at hy;rw[bC3 (by omega)]at he
         simp only[bA1]at he;subst hy;subst he;exact⟨hk,M5 σ hc⟩
       ·grind
      ·cases h
     ·cases h
    ·cases h
   ·cases h
  ·cases h
 ·cases h
def G9 (hp:Hp)(m s x:Value):Option Hp:=
 match m,s with
 | .map (some i),.int _ (.ofNat n)=>match hp.m.get i with
  |some (.map es true)=>match es[n]? with
   |some y=>some {hp with m:=hp.m.set i (some (.map (es.set n (y.1,x)) true))}
   |none=>none
  |_=>none
 |_,_=>none
theorem al4 {t : TypeId} {s s':Value}  (h : G9 hp m s x = some hp') (hm : VR σ m m') (hs : VR σ s s') (hx : VR σ x x') ( E : HR B w0 σ hp w) :
  ∃w',(Instr.entryStore t m' s' x').run P w= .ok () w'/\HR B w0 σ hp' w'/\hp'.nx=hp.nx:=by
 unfold G9 at h;split at h
 ·rename_i i kd n
  cases hm with
  |map _ p u=>
  cases hs;split at h
  ·rename_i es D
   obtain⟨p',o,A,_,C,ents,g,rfl,G,K,H⟩:=E.live i _ D;have:p'=p:=bC7 (A.symm.trans u);subst this;obtain⟨J,F⟩:=H rfl;have l:=G3 (P:=P) C (fun c e f h=>by cases h)
   have hset:=fun o'=>O8 (P:=P) (o':=o') C (fun c e f h=>by cases h)
   split at h
   ·rename_i y hy
    cases h;have hn:n<ents.size:=by grind
    have I:ents[n]? =some ents[n]:=by simp[hn]
    have q:ents.findIdx? (fun e=>(e.born:Int)==Int.ofNat n)=some n:=by
     rw[Array.findIdx?_eq_some_iff_getElem];refine⟨hn,?_,fun j hj=>?_⟩
     ·grind
     ·have:=F j ents[j] (by simp[show j<ents.size by omega])
      grind
    refine⟨_,?_,E.setO D A (b':= .map (es.set n (y.1,x)) true) (o:= .map (ents.modify n fun e=> {e with val:=x'}) g) ⟨_,_,rfl,by simp[G],fun j z e hz he=>?_,fun _=>?_⟩,rfl⟩
    ·simp only[Instr.entryStore,bD0,bC6,l,asInt,asIntOf,bD5,q,hset]
    ·grind
    ·grind
   ·cases h
  ·cases h
 ·cases h
def Q3 (hp:Hp)(P:Program)(t:TypeId)(x:Value):Option Value:=
 match P.underlying t,x with
 |some (.map _ _),.map (some i)=>match hp.m.get i with
  |some (.map es _)=>some (.int .i64 es.length)
  |_=>none
 |_,_=>at2 P t x
theorem aS8 {t : TypeId}  (h : Q3 hp P t x = some v) (hx : VR σ x x') ( A : HR B w0 σ hp w) (ty : TypeId) (ats : Array TypeId) (  g : ats[0]? = some t) :
  VR σ v v/\(Builtin.len_ ats ty #[x']).run P w= .ok v w:=by
 unfold Q3 at h;split at h
 ·rename_i kt C i z
  split at h
  ·rename_i es y
   cases h;cases hx with
   |map _ p n=>
   obtain⟨p',o,q,_,s,ents,l,rfl,u,D,E⟩:=A.live i _ y;have:p'=p:=bC7 (q.symm.trans n);subst this;have j:=G3 (P:=P) s (fun c e f h=>by cases h)
   refine⟨.int _ _,?_⟩;simp[Builtin.len_,g,bC5 z,j,goInt,u]
  ·cases h
 ·exact⟨(aA7 (P:=P) h hx ty ats g).1,(aA7 (P:=P) h hx ty ats g).2 w⟩
end
end Go.Xe
end PartXmM
noncomputable section PartXmC
namespace Go.Xe
open Go.RowKit
def Q7 (f:Value->Value->Bool):List Value->List Value->Bool
 | [],[]=>true
 |x::xs,y::ys=>f x y&&Q7 f xs ys
 |_,_=>false
theorem U8 {f:Value->Value->Bool}(hf:∀x y,f x y=true->x=y):∀ {xs ys:List Value},Q7 f xs ys=true->xs=ys
 | [],[],_=>rfl
 |x::xs,y::ys,h=>by
  simp only[Q7,bA2]at h;rw[hf _ _ h.1,U8 hf h.2]
 | [],_::_,h=>by cases h
 |_::_,[],h=>by cases h
def veq :Nat->Value->Value->Bool
 |0,_,_=>false
 |n+1,x,y=>match x,y with
  | .bool a,.bool b=>a==b
  | .int j a,.int k b=>decide (j=k)&&decide (a=b)
  | .string a,.string b=>a.data.toList==b.data.toList
  | .pointer a,.pointer b=>decide (a=b)
  | .slice a l c,.slice b l' c'=>decide (a=b)&&Nat.beq l l'&&Nat.beq c c'
  | .map a,.map b=>decide (a=b)
  | .nilFunc,.nilFunc=>true
  | .nilIface,.nilIface=>true
  | .iface t v,.iface u w=>Nat.beq t u&&veq n v w
  | .agg a,.agg b=>Q7 (veq n) a.toList b.toList
  | .tuple a,.tuple b=>Q7 (veq n) a.toList b.toList
  | .func f a c,.func g b d=>decide (f=g)&&Q7 (veq n) a.toList b.toList&&Q7 (veq n) c.toList d.toList
  | .complex f a b,.complex g c d=>decide (f=g)&&Nat.beq a c&&Nat.beq b d
  | .chan a,.chan b=>decide (a=b)
  |_,_=>false
theorem ao5 :∀(n:Nat) (x y:Value),veq n x y=true->x=y:=by
 intro n
 induction n with
 |zero=>intro x y h;cases h
 |succ n f=>
  intro x y h;simp only[veq]at h;split at h
  ·grind
  ·grind
  ·rename_i a b
   obtain⟨⟨a⟩⟩:=a
   simp_all
  ·grind
  ·simp_all
  ·grind
  ·rfl
  ·rfl
  ·simp only[bA2]at h;rw[bA6 h.1,f _ _ h.2]
  ·rw[bH9 (U8 f h)]
  ·rw[bH9 (U8 f h)]
  ·simp only[bA2,bC2]at h;rw[h.1.1,bH9 (U8 f h.1.2),bH9 (U8 f h.2)]
  ·simp_all
  ·grind
  ·cases h
section
variable {P :Program}{B:BS}{w0:World}{σ:Sg}{hp:Hp}{w:World}
def aZ2 (P : Program) (hp : Hp) (t : TypeId) (x : Value) : Option (Value × Hp) :=
 match P.underlying t with
 | some (.slice e) => match x with
  | .slice none _ _=>some (.tuple #[],hp)
  | .slice (some _) 0 _=>some (.tuple #[],hp)
  | .slice (some ⟨i, o, none⟩) (n + 1) _ => match E1 P e with
   |none=>none
   | some z => match hp.m.get i with
    | some (.cells c k e' z') => bif Nat.ble (o + (xrep (n + 1) z.cells.toList).length) k && (xrep (n + 1) z.cells.toList).all Value.oneCell' then
      some (.tuple #[],ap2 hp i c k e' z' o (xrep (n+1) z.cells.toList))
     else none
    |_=>none
  |_=>none
 |some (.map _ _)=>match x with
  | .map none=>some (.tuple #[],hp)
  | .map (some i)=>match hp.m.get i with
   |some (.map _ _)=>some (.tuple #[],{hp with m:=hp.m.set i (some (.map [] false))})
   |_=>none
  |_=>none
 |_=>none
variable {v x x':Value}{hp':Hp}
theorem aL0 {t : TypeId}    (h : aZ2 P hp t x = some (v, hp')) (hx : VR σ x x') ( q : HR B w0 σ hp w) (ty : TypeId) :
  MOK hp B w0 σ v hp' ((Builtin.clear_ #[t] ty #[x']).run P w):=by
 have tup:VR σ (.tuple #[]) (.tuple #[]):=VRL.to_tuple (VRL.nil σ);unfold aZ2 at h;split at h
 ·rename_i e ht
  split at h
  ·simp only[bA1,bA3]at h
   obtain⟨rfl,rfl⟩:=h;cases hx;refine⟨σ,.tuple #[],w,?_,Sg.gr_refl _ σ,tup,q⟩;simp[Builtin.clear_,bC5 ht]
  ·simp only[bA1,bA3]at h
   obtain⟨rfl,rfl⟩:=h;cases hx<;>exact⟨σ,.tuple #[],w,by simp[Builtin.clear_,bC5 ht],Sg.gr_refl _ σ,tup,q⟩
  ·rename_i i o n c0
   split at h
   ·cases h
   rename_i z hz;split at h
   case h_2=>cases h
   rename_i c k e' Q s;cases hx with
   |slice _ _ p _ _ c' l I K=>
   obtain⟨k1,k2⟩:=q.place s l;cases hb:Nat.ble (o+(xrep (n+1) z.cells.toList).length) k&&(xrep (n+1) z.cells.toList).all Value.oneCell' with
   |false=>grind
   |true=>
    rw[hb,bB8,I8]at h;simp only[bA2]at hb;have J:=bA5 hb.1;cases h;obtain⟨hc,E⟩:=D4 hz;have H:VRL σ (xrep (n+1) z.cells.toList) (xrep (n+1) z.cells.toList):=(M5 σ hc).cells.xrep (n+1);have A:=H.all_oneCell hb.2;obtain⟨w',D,hh,_⟩:=q.store (o:=o) s l H A (by omega) (by omega) P
    have C:(Builtin.zeroCells z.cells (n+1)).toList=xrep (n+1) z.cells.toList:=ac6 z.cells (n+1);refine⟨σ,.tuple #[],w',?_,Sg.gr_refl _ σ,tup,?_⟩
    ·simp[Builtin.clear_,bC5 ht,E,C,D]
    ·grind
  ·cases h
 ·rename_i kt L ht
  split at h
  ·simp only[bA1,bA3]at h
   obtain⟨rfl,rfl⟩:=h;cases hx;refine⟨σ,.tuple #[],w,?_,Sg.gr_refl _ σ,tup,q⟩;simp[Builtin.clear_,bC5 ht]
  ·rename_i i
   split at h
   case h_2=>cases h
   rename_i es reg s;cases h;cases hx with
   |map _ p l=>
   obtain⟨p',o,F,_,G,ents,g,rfl,M,N,O⟩:=q.live i _ s;have:p'=p:=bC7 (F.symm.trans l);subst this;have u:=G3 (P:=P) G (fun c e f h=>by cases h)
   have hset:=O8 (P:=P) (o':= .map #[] g) G (fun c e f h=>by cases h)
   refine⟨σ,.tuple #[],_,?_,Sg.gr_refl _ σ,tup,q.setO s F (b':= .map [] false) (o:= .map #[] g) ⟨_,_,rfl,rfl,(fun j y e hy he=>by simp at hy),fun hr=>by cases hr⟩⟩
   simp[Builtin.clear_,bC5 ht,u,hset]
  ·cases h
 ·cases h
def al3 (P : Program) (hp : Hp) (t u : TypeId) (s x : Value) : Option (Value × Hp) :=
 match P.underlying t,P.underlying u with
 | some (.slice e), some (.int _) => match P.info? e with
  |none=>none
  | some ie => match ie.zero with
   |none=>none
   | some z => match s, x with
    | .slice (some ⟨i, o, none⟩) sLen sCap, .int _ (.ofNat cnt) =>
     bif cst z && Nat.beq z.cells.toList.length ie.size && Nat.ble ie.bytes 1048576 && Nat.ble 1 ie.size && Nat.ble 1 cnt && Nat.ble (sLen + cnt) 67108864 &&
       (Nat.ble unk sCap&&Nat.ble 1 (B4 sCap)&&Nat.ble (B4 sCap) (sLen+cnt))then
      match hp.m.get i with
      | some (.cells c k _ _) => bif Nat.ble (o + sLen * ie.size) k then
        match f9 c o (sLen*ie.size)with
        |some olds=>some (.slice (some ⟨hp.nx,0,none⟩) (sLen+cnt) (g9 (sLen+cnt) 0),hp.new (olds++xrep cnt z.cells.toList) e ie.size)
        |none=>none
       else none
      |_=>none
     else none
    |_,_=>none
 |_,_=>none
theorem aA3 {t u : TypeId} {s s':Value}   (h : al3 P hp t u s x = some (v, hp')) (hs : VR σ s s') (hx : VR σ x x') ( N : HR B w0 σ hp w) (ty : TypeId) :
  MOK hp B w0 σ v hp' ((Builtin.append_ #[t,u] ty #[s',x']).run P w):=by
 unfold al3 at h;split at h
 case h_2=>cases h
 rename_i e ik ht J;split at h
 ·cases h
 rename_i ie G;split at h
 ·cases h
 rename_i z hz;split at h
 case h_2=>cases h
 rename_i i o f n kq cnt;cases hb : cst z && Nat.beq z.cells.toList.length ie.size && Nat.ble ie.bytes 1048576 && Nat.ble 1 ie.size && Nat.ble 1 cnt && Nat.ble (   f + cnt) 67108864 &&
       (Nat.ble unk n&&Nat.ble 1 (B4 n)&&Nat.ble (B4 n) (f+cnt))with
 |false=>grind
 |true=>
 rw[hb,bB8]at h;simp only[bA2]at hb;obtain⟨⟨⟨⟨⟨⟨W,b2⟩,D⟩,Q⟩,R⟩,E⟩,⟨S,T⟩,U⟩:=hb;have V:z.cells.size=ie.size:=by simp_all
 have D:=bA5 D;have Q:=bA5 Q;have R:=bA5 R;have E:=bA5 E;have S:=bA5 S;have T:=bA5 T;have U:=bA5 U;split at h
 case h_2=>cases h
 rename_i c k e' z' Y;cases q:Nat.ble (o+f*ie.size) k with
 |false=>grind
 |true=>
 rw[q,bB8]at h;have q:=bA5 q;split at h
 case h_2=>cases h
 rename_i C H;cases h;cases hx;cases hs with
 |slice _ _ p _ _ c' I X Z=>
 have hlt:c'<f+cnt:=by grind
 obtain⟨g,L,l,F⟩:=N.cells Y q H I;have hr:=Lib.run_append_grow_zeros (P:=P) w t u ty e ie z kq ik ht J G hz (some ⟨p.blk,p.dl+o,none⟩) f c' g
  (run_firstCells_some w.drew ie.size f _ f c' g l (fun j u J=>(ac3 (w:=w) (w':=w.drew) rfl _).trans (F j u J))) cnt (by omega) (by omega) hlt (by omega)
  (by have:=Nat.mul_le_mul (show cnt<=67108864 by omega) D;omega) (growslice_fits hlt (by have:=Nat.mul_le_mul E D;omega))
 have O:(Builtin.zeroCells z.cells cnt).toList=xrep cnt z.cells.toList:=ac6 z.cells cnt;have M:VRL σ (xrep cnt z.cells.toList) (Builtin.zeroCells z.cells cnt).toList:=by rw[O];exact(M5 σ W).cells.xrep cnt
 have y:=L.append M;have hge:=grownCap_ge w (f+cnt) c' e;have A:=N.grown y (Builtin.zeroCells z.cells (grownCap w (f+cnt) c' e-(f+cnt))) (fill .e 0 (C++xrep cnt z.cells.toList)) (fun j hj=>C5 _ j hj) e ie.size
 have K:(g++(Builtin.zeroCells z.cells cnt).toList).length=(f+cnt)*ie.size:=by
  rw[bC8,l,Array.length_toList,size_zeroCells,V,bD7]
 rw[show(g++(Builtin.zeroCells z.cells cnt).toList).toArray=g.toArray++Builtin.zeroCells z.cells cnt by apply bH9;simp]at A
 refine⟨_,_,_,hr,N.le_new _,VR.unkSlice σ hp.nx ⟨w.heap.size,0,(g++(Builtin.zeroCells z.cells cnt).toList).length+(Builtin.zeroCells z.cells (grownCap w (f+cnt) c' e-(f+cnt))).size,ie.size⟩ rfl hge ?_,?_⟩
 ·show grownCap w (f+cnt) c' e*ie.size<=(g++(Builtin.zeroCells z.cells cnt).toList).length+_
  rw[size_zeroCells,K,V,<-bD7]
  grind
 ·simpa [Hp.new]using A
def bw8 (P:Program)(g:FuncId)(t:TypeId):Prop:=
 ∃fn r,P.funcs[g]? =some fn/\(fn.name== "runtime.NumGoroutine")=false/\fn.body.isNone=true/\Extern.findNext fn=none/\Extern.find fn=some (Extern.SlicesOverlaps.overlaps #[t,t] #[r])
def bt0 (P : Program) (hp : Hp) (t : TypeId) (args : List Value) : Option (Value × Hp) :=
 match P.underlying t with
 | some (.slice e) => match P.info? e with
  | some _ => match args with
   | [.slice (some ⟨i, _, none⟩) _ _, .slice (some ⟨j, _, none⟩) _ _] => bif Nat.beq i j then none else
     match hp.m.get i,hp.m.get j with
     |some (.cells _ _ _ _),some (.cells _ k _ _)=>bif Nat.ble 1 k then some (.bool false,hp)else none
     |_,_=>none
   |_=>none
  |none=>none
 |_=>none
def af4 :TypeId:=4294967295
def isT :Option TypeId->Bool
 |some t=>Nat.beq t af4
 |none=>false
def aU2 (P:Program)(g:FuncId):Prop:=∀w,Calls P g #[] w fun e w'=>e= .returned (.bool true)/\Below w.heap.size w w'
def Z2 (P:Program)(g:FuncId)(t:TypeId):Prop:=(t=af4/\aU2 P g)\/(t≠af4/\bw8 P g t)
theorem HR.below (h:HR B w0 σ hp w){w':World}(k:Below w.heap.size w w'):HR B w0 σ hp w':=by
 refine⟨k.os.trans h.os,k.tape.trans h.tape,k.output.trans h.output,bF8 h.size k.size,h.old,fun i hi=>?_,h.fresh,fun i b n=>?_,h.inj⟩
 ·rw[k.block i (bF3 (h.old i hi) h.size)];exact h.kept i hi
 ·obtain⟨p,o,g,j,f,l⟩:=h.live i b n
  exact⟨p,o,g,j,by rw[k.block p.blk (bB6.1 f).1];exact f,l⟩
theorem aT2 {g : FuncId} {t : TypeId} (ho : bw8 P g t) {args args' : List Value}   (h : bt0 P hp t args = some (v, hp')) ( W : VRL σ args args') ( L : HR B w0 σ hp w) :
  hp'=hp/\ ∃u,VR σ v u/\(callFunc g args'.toArray).run P w= .ok (.value u) w:=by
 unfold bt0 at h;split at h
 case h_2=>cases h
 rename_i e ht;split at h
 case h_2=>cases h
 rename_i ie I;split at h
 case h_2=>cases h
 rename_i i o1 l1 c1 j o2 l2 c2;cases f:Nat.beq i j with
 |true=>grind
 |false=>
 rw[f,bB9]at h;have s:i≠j:=fun e=>by rw[e,l8 rfl]at f;cases f
 split at h
 case h_2=>cases h
 rename_i ci ki N zi cj kj O zj l n;cases hk:Nat.ble 1 kj with
 |false=>grind
 |true=>
 rw[hk,bB8]at h;have hk:=bA5 hk;cases h;obtain⟨a1,r,rfl,G,hr⟩:=W.uncons;obtain⟨a2,r,rfl,H,hr⟩:=hr.uncons;rw[hr.unnil]at*;cases G with
 |slice _ _ p _ _ A y Y aa=>
 cases H with
 |slice _ _ q _ _ E z Z ab=>
 obtain⟨fn,rt,Q,R,S,T,U⟩:=ho;have J:p.blk≠q.blk:=L.inj i j _ _ p q l n s y z;refine⟨rfl,.bool false,.bool false,?_⟩;obtain⟨p',C,V,g2,g3,F,g5,g6,g7⟩:=L.liveC l;have:p'=p:=bC7 (V.symm.trans y);subst this;obtain⟨M,D,m1,m2,m3,m4,m5,m6,m7⟩:=L.liveC n;have:M=q:=bC7 (m1.symm.trans z);subst this;have K:∀w,(Go.sizeOf e).run P w= .ok ie.size w:=fun w=>by simp[sizeOf,typeInfo,I]
 rw[run_callFunc_extern Q R S T U];have X:=Lib.run_overlaps_apart (P:=P) w t rt e ht ie.size K ⟨p'.blk,p'.dl+o1,none⟩ ⟨M.blk,M.dl+o2,none⟩ l1 A l2 E J N O C.size D.size
  (by simp[World.shape?,F]) (by simp[World.shape?,m4]) (by omega) (by simp[World.frozen?,F]) (by simp[World.frozen?,F])
 simp_all
end
end Go.Xe
end PartXmC
noncomputable section PartXm10
namespace Go.Xe
open Go.RowKit
def R5 (tm:T Value):List (Nat×Operand)->Option (List (Nat×Value))
 | []=>some []
 | (i,x)::xs=>match a8 tm x with
  |some v=>match R5 tm xs with
   |some vs=>some ((i,v)::vs)
   |none=>none
  |none=>none
theorem ah8 {σ : Sg} {tm : T Value} {a : Act} : ∀ {xs : List (Nat × Operand)} {vs : List (Nat × Value)}, (∀ p ∈ xs, ∀ v, a8 tm p.2 = some v → VR σ v (a.eval p.2)) → R5 tm xs = some vs →
  PVR σ vs (xs.map fun p=>(p.1,a.eval p.2))
 | [],vs,_,hx=>by simp[R5]at hx;subst hx;exact⟨rfl,fun i x y h _=>by simp at h⟩
 | (i,x)::xs,vs,h,hx=>by
  simp only[R5]at hx;cases g:a8 tm x with
  |none=>grind
  |some v=>
   cases hr:R5 tm xs with
   |none=>grind
   |some r=>
    simp[g,hr]at hx;subst hx;have f:=ah8 (fun p hp=>h p (by simp[hp])) hr
    refine⟨by simp[f.1],fun j p q hp hq=>?_⟩
    cases j with
    |zero=>grind
    |succ j=>simp only[bB2,bF2]at hp hq;exact f.2 j p q hp hq
def ae5 (tm:T Value):Option Operand->Option (Option Value)
 |none=>some none
 |some x=>match a8 tm x with
  |some v=>some (some v)
  |none=>none
theorem al9 {σ:Sg}{tm:T Value}{a:Act}{x:Option Operand}(h:∀y,x=some y-> ∀v,a8 tm y=some v->VR σ v (a.eval y)){v:Option Value}(hx:ae5 tm x=some v):OVR σ v (x.map a.eval):=by
 cases x with
 |none=>simp only[ae5,bA1]at hx;subst hx;exact trivial
 |some x=>
  simp only[ae5]at hx;cases f:a8 tm x with
  |none=>grind
  |some u=>simp only[f,bA1]at hx;subst hx;exact h x rfl _ f
theorem al5 {σ:Sg}{tm:T Value}{a:Act}:∀ {xs:List Operand} {vs:List Value},(∀x∈xs,∀v,a8 tm x=some v->VR σ v (a.eval x))->U2 tm xs=some vs->VRL σ vs (xs.map a.eval)
 | [],vs,_,hx=>by simp[U2]at hx;subst hx;exact VRL.nil σ
 |x::xs,vs,h,hx=>by
  simp only[U2]at hx;cases f:a8 tm x with
  |none=>grind
  |some v=>
   cases hr:U2 tm xs with
   |none=>grind
   |some r=>simp[f,hr]at hx;subst hx;exact VRL.cons (h x (by simp) _ f) (al5 (fun y hy=>h y (by simp[hy])) hr)
def d8 (hp:Hp):Option Value->Option (Value×Hp)
 |some v=>some (v,hp)
 |none=>none
theorem e9 {hp hp':Hp}{x:Option Value}{v:Value}(h:d8 hp x=some (v,hp')):x=some v/\hp'=hp:=by
 cases x with
 |none=>cases h
 |some u=>simp only[d8,bA1,bA3]at h;exact⟨by rw[h.1],h.2.symm⟩
structure c8 where
 run:FuncId->List Value->Hp->Option (Value×Hp)
 ov:FuncId->Option TypeId
 round:Nat->List Value->Hp->Option (Value×Hp)
def O7 (fn:Func):Bool:=fn.body.isSome&& !(fn.name== "runtime.NumGoroutine")
def A6 (P:Program)(hp:Hp)(b:Builtin)(ats:List TypeId)(args:List Value):Option (Value×Hp):=
 match b,ats,args with
 | .append,[t,u],[s,x]=>match ad7 P hp t u s x with
  |some r=>some r
  |none=>al3 P hp t u s x
 | .clear,[t],[x]=>aZ2 P hp t x
 | .copy,[t,_],[d,x]=>bs3 P hp t d x
 | .len,[t],[x]=>d8 hp (Q3 hp P t x)
 | .cap,[t],[x]=>d8 hp (as8 P t x)
 | .min,_,x::xs=>d8 hp (Y4 false x xs)
 | .max,_,x::xs=>d8 hp (Y4 true x xs)
 |_,_,_=>none
def ar3 (P : Program) (call : c8) (hp : Hp) (f : Value) (args : List Value) : Option (Value × Hp) :=
 match f with
 | .func (.func g) first captured => match P.funcs[g]? with
  | some fn => bif O7 fn then call.run g (first.toList ++ args ++ captured.toList) hp else
    match call.ov g with
    |some t=>bif Nat.beq t af4 then none else bt0 P hp t (first.toList++args++captured.toList)
    |none=>none
  |none=>none
 | .chan (some i)=>call.round i args hp
 |_=>none
def xnw (P:Program)(tm:T Value)(o:Op):Option Nw:=
 match o with
 | .alloc e=>ad6 P e
 | .box e x=>match a8 tm x with
  |some v=>some (aG9 e v)
  |none=>none
 | .buildSlice t len parts=>match R5 tm parts.toList with
  |some ps=>bj2 P t len ps
  |none=>none
 | .makeSlice t l c=>match a8 tm l with
  |some v=>match a8 tm c with
   |some u=>aZ5 P t v u
   |none=>none
  |none=>none
 | .makeMap t r=>match ae5 tm r with
  |some v=>match P.underlying t with
   |some (.map _ _)=>be2 v
   |_=>none
  |none=>none
 | .range t x=>match a8 tm x with
  |some v=>am0 P t v
  |none=>none
 |_=>none
def C7 (hp:Hp):Option Nw->Option (Value×Hp)
 |some n=>some (hp.add n)
 |none=>none
def oPick (tm:T Value)(hp:Hp)(c:Operand)(a:Operand)(b:Operand):Option (Value×Hp):=
 match a8 tm c with
  |some (.bool t)=>bif t then d8 hp (a8 tm a)else d8 hp (a8 tm b)
  |_=>none
def oNext (tm:T Value)(hp:Hp)(it:Operand)(isS:Bool):Option (Value×Hp):=
 match a8 tm it with
  |some v=>aB1 hp v isS
  |none=>none
def bu9 (P:Program)(tm:T Value)(hp:Hp)(t:TypeId)(x:Operand)(k:Operand)(ok:Bool):Option (Value×Hp):=
 match a8 tm x with
  |some v=>match a8 tm k with
   |some u=>d8 hp (w9 P hp t v u ok)
   |none=>none
  |none=>none
def ax6 (P:Program)(tm:T Value)(hp:Hp)(t:TypeId)(m:Operand)(k:Operand)(x:Operand):Option (Value×Hp):=
 match a8 tm m with
  |some mv=>match a8 tm k with
   |some kv=>match a8 tm x with
    |some xv=>match Q4 P hp t mv kv xv with
     |some hp'=>some (undef,hp')
     |none=>none
    |none=>none
   |none=>none
  |none=>none
def bg7 (P:Program)(tm:T Value)(hp:Hp)(t:TypeId)(m:Operand)(k:Operand):Option (Value×Hp):=
 match a8 tm m with
  |some mv=>match a8 tm k with
   |some kv=>D9 P hp t mv kv
   |none=>none
  |none=>none
def aP1 (tm:T Value)(hp:Hp)(m:Operand)(s:Operand)(x:Operand):Option (Value×Hp):=
 match a8 tm m with
  |some mv=>match a8 tm s with
   |some sv=>match a8 tm x with
    |some xv=>match G9 hp mv sv xv with
     |some hp'=>some (undef,hp')
     |none=>none
    |none=>none
   |none=>none
  |none=>none
def by6 (P:Program)(tm:T Value)(hp:Hp)(t:TypeId)(parts:Array (Nat×Operand)):Option (Value×Hp):=
 match R5 tm parts.toList with
  |some ps=>d8 hp (ah1 P t ps)
  |none=>none
def oLoad (P:Program)(tm:T Value)(hp:Hp)(t:TypeId)(a:Operand):Option (Value×Hp):=
 match a8 tm a with
  |some v=>d8 hp (A8 P hp t v)
  |none=>none
def bz0 (P:Program)(tm:T Value)(hp:Hp)(t:TypeId)(a:Operand)(x:Operand):Option (Value×Hp):=
 match a8 tm a with
  |some v=>match a8 tm x with
   |some u=>match A9 P hp t v u with
    |some hp'=>some (undef,hp')
    |none=>none
   |none=>none
  |none=>none
def bg8 (tm:T Value)(hp:Hp)(x:Operand):Option (Value×Hp):=
 match a8 tm x with
  |some (.pointer (some p))=>some (.pointer (some p),hp)
  |some (.func (.func f) a b)=>some (.func (.func f) a b,hp)
  |_=>none
def by5 (P:Program)(tm:T Value)(hp:Hp)(op:BinOp)(t:TypeId)(x:Operand)(y:Operand):Option (Value×Hp):=
 match a8 tm x with
  |some v=>match a8 tm y with
   |some u=>d8 hp (T8 P op t v u)
   |none=>none
  |none=>none
def oUnOp (tm:T Value)(hp:Hp)(op:UnOp)(x:Operand):Option (Value×Hp):=
 match a8 tm x with
  |some v=>d8 hp (xun op v)
  |none=>none
def bo1 (P:Program)(tm:T Value)(hp:Hp)(s:TypeId)(d:TypeId)(x:Operand):Option (Value×Hp):=
 match a8 tm x with
  |some v=>d8 hp (ab7 P s d v)
  |none=>none
def ax5 (P:Program)(tm:T Value)(hp:Hp)(t:TypeId)(x:Operand):Option (Value×Hp):=
 match a8 tm x with
  |some v=>d8 hp (ah5 P t v)
  |none=>none
def bg6 (tm:T Value)(hp:Hp)(fn:Fn)(first:Array Operand)(captured:Array Operand):Option (Value×Hp):=
 match U2 tm first.toList with
  |some fs=>match U2 tm captured.toList with
   |some cs=>some (.func fn fs.toArray cs.toArray,hp)
   |none=>none
  |none=>none
def by9 (P:Program)(tm:T Value)(hp:Hp)(t:TypeId)(x:Operand)(lo:Option Operand)(hi:Option Operand)(mx:Option Operand):Option (Value×Hp):=
 match a8 tm x with
  |some v=>match ae5 tm lo with
   |some l=>match ae5 tm hi with
    |some h=>match ae5 tm mx with
     |some m=>o9 P hp t v l h m
     |none=>none
    |none=>none
   |none=>none
  |none=>none
def aW3 (P:Program)(tm:T Value)(hp:Hp)(t:TypeId)(x:Operand)(f:Nat):Option (Value×Hp):=
 match a8 tm x with
  |some v=>d8 hp (D2 P t v f)
  |none=>none
def by7 (P:Program)(tm:T Value)(hp:Hp)(t:TypeId)(x:Operand)(f:Nat):Option (Value×Hp):=
 match a8 tm x with
  |some v=>d8 hp (ah4 P t v f)
  |none=>none
def aW4 (P:Program)(tm:T Value)(hp:Hp)(t:TypeId)(x:Operand)(i:Operand):Option (Value×Hp):=
 match a8 tm x with
  |some v=>match a8 tm i with
   |some u=>d8 hp (k8 P t v u)
   |none=>none
  |none=>none
def by8 (P:Program)(tm:T Value)(hp:Hp)(t:TypeId)(x:Operand)(i:Operand):Option (Value×Hp):=
 match a8 tm x with
  |some v=>match a8 tm i with
   |some u=>d8 hp (ac0 P t v u)
   |none=>none
  |none=>none
def bo2 (tm:T Value)(hp:Hp)(x:Operand)(i:Nat):Option (Value×Hp):=
 match a8 tm x with
  |some v=>d8 hp (P0 v i)
  |none=>none
def oCall (P:Program)(call:c8)(tm:T Value)(hp:Hp)(c:Call):Option (Value×Hp):=
 match U2 tm c.args.toList with
  |some args=>match c.callee with
   | .builtin b=>A6 P hp b c.argTypes.toList args
   | .value f=>match a8 tm f with
    |some v=>ar3 P call hp v args
    |none=>none
   |_=>none
  |none=>none
def xop (P:Program)(call:c8)(tm:T Value)(hp:Hp)(o:Op):Option (Value×Hp):=
 Op.rec (motive:=fun _=>Program->c8->T Value->Hp->Option (Value×Hp))
  (fun x _ _ tm hp=>d8 hp (a8 tm x))
  (fun x _ _ tm hp=>d8 hp (a8 tm x))
  (fun c a b _ _ tm hp=>oPick tm hp c a b)
  (fun e P _ tm hp=>C7 hp (xnw P tm (.alloc e)))
  (fun e x P _ tm hp=>C7 hp (xnw P tm (.box e x)))
  (fun t parts P _ tm hp=>by6 P tm hp t parts)
  (fun t len parts P _ tm hp=>C7 hp (xnw P tm (.buildSlice t len parts)))
  (fun t m k x P _ tm hp=>ax6 P tm hp t m k x)
  (fun t a P _ tm hp=>oLoad P tm hp t a)
  (fun t a x P _ tm hp=>bz0 P tm hp t a x)
  (fun _ _ _ _ _=>none)
  (fun _ _ _ _ _=>none)
  (fun x _ _ tm hp=>bg8 tm hp x)
  (fun op t x y _ P _ tm hp=>by5 P tm hp op t x y)
  (fun op _ x _ _ tm hp=>oUnOp tm hp op x)
  (fun s d x P _ tm hp=>bo1 P tm hp s d x)
  (fun _ _ _ _ _ _=>none)
  (fun t x P _ tm hp=>ax5 P tm hp t x)
  (fun fn first captured _ _ tm hp=>bg6 tm hp fn first captured)
  (fun t r P _ tm hp=>C7 hp (xnw P tm (.makeMap t r)))
  (fun _ _ _ _ _ _=>none)
  (fun t l c P _ tm hp=>C7 hp (xnw P tm (.makeSlice t l c)))
  (fun t x lo hi mx P _ tm hp=>by9 P tm hp t x lo hi mx)
  (fun t x f P _ tm hp=>aW3 P tm hp t x f)
  (fun t x f P _ tm hp=>by7 P tm hp t x f)
  (fun t x i P _ tm hp=>aW4 P tm hp t x i)
  (fun t x i P _ tm hp=>by8 P tm hp t x i)
  (fun t x k ok P _ tm hp=>bu9 P tm hp t x k ok)
  (fun t m k x P _ tm hp=>ax6 P tm hp t m k x)
  (fun t m k P _ tm hp=>bg7 P tm hp t m k)
  (fun _ m s x _ _ tm hp=>aP1 tm hp m s x)
  (fun t x P _ tm hp=>C7 hp (xnw P tm (.range t x)))
  (fun it isS _ _ tm hp=>oNext tm hp it isS)
  (fun _ _ _ _ _=>none)
  (fun _ _ _ _ _ _ _ _=>none)
  (fun x i _ _ tm hp=>bo2 tm hp x i)
  (fun c P call tm hp=>oCall P call tm hp c)
  (fun _ _ _ _ _=>none)
  (fun _ _ _ _ _=>none)
  (fun _ _ _ _ _=>none)
  (fun _ _ _ _ _ _=>none)
  (fun _ _ _ _ _ _ _=>none)
  (fun _ _ _ _ _ _=>none)
  o P call tm hp
def d9 (P:Program)(call:c8)(tm:T Value)(hp:Hp)(o:Op):Option (Value×Hp):=
 match o with
 | .move x=>d8 hp (a8 tm x)
 | .assign x=>d8 hp (a8 tm x)
 | .pick c a b=>match a8 tm c with
  |some (.bool t)=>bif t then d8 hp (a8 tm a)else d8 hp (a8 tm b)
  |_=>none
 | .alloc e=>C7 hp (xnw P tm (.alloc e))
 | .box e x=>C7 hp (xnw P tm (.box e x))
 | .makeMap t r=>C7 hp (xnw P tm (.makeMap t r))
 | .range t x=>C7 hp (xnw P tm (.range t x))
 | .next it isS=>match a8 tm it with
  |some v=>aB1 hp v isS
  |none=>none
 | .lookup t x k ok=>match a8 tm x with
  |some v=>match a8 tm k with
   |some u=>d8 hp (w9 P hp t v u ok)
   |none=>none
  |none=>none
 | .mapEntry t m k=>match a8 tm m with
  |some mv=>match a8 tm k with
   |some kv=>D9 P hp t mv kv
   |none=>none
  |none=>none
 | .entryStore _ m s x=>match a8 tm m with
  |some mv=>match a8 tm s with
   |some sv=>match a8 tm x with
    |some xv=>match G9 hp mv sv xv with
     |some hp'=>some (undef,hp')
     |none=>none
    |none=>none
   |none=>none
  |none=>none
 | .mapUpdate t m k x=>match a8 tm m with
  |some mv=>match a8 tm k with
   |some kv=>match a8 tm x with
    |some xv=>match Q4 P hp t mv kv xv with
     |some hp'=>some (undef,hp')
     |none=>none
    |none=>none
   |none=>none
  |none=>none
 | .insert t m k x=>match a8 tm m with
  |some mv=>match a8 tm k with
   |some kv=>match a8 tm x with
    |some xv=>match Q4 P hp t mv kv xv with
     |some hp'=>some (undef,hp')
     |none=>none
    |none=>none
   |none=>none
  |none=>none
 | .build t parts=>match R5 tm parts.toList with
  |some ps=>d8 hp (ah1 P t ps)
  |none=>none
 | .buildSlice t len parts=>C7 hp (xnw P tm (.buildSlice t len parts))
 | .load t a=>match a8 tm a with
  |some v=>d8 hp (A8 P hp t v)
  |none=>none
 | .store t a x=>match a8 tm a with
  |some v=>match a8 tm x with
   |some u=>match A9 P hp t v u with
    |some hp'=>some (undef,hp')
    |none=>none
   |none=>none
  |none=>none
 | .nilCheck x=>match a8 tm x with
  |some (.pointer (some p))=>some (.pointer (some p),hp)
  |some (.func (.func f) a b)=>some (.func (.func f) a b,hp)
  |_=>none
 | .binOp op t x y _=>match a8 tm x with
  |some v=>match a8 tm y with
   |some u=>d8 hp (T8 P op t v u)
   |none=>none
  |none=>none
 | .unOp op _ x=>match a8 tm x with
  |some v=>d8 hp (xun op v)
  |none=>none
 | .convert s d x=>match a8 tm x with
  |some v=>d8 hp (ab7 P s d v)
  |none=>none
 | .makeInterface t x=>match a8 tm x with
  |some v=>d8 hp (ah5 P t v)
  |none=>none
 | .makeFunc fn first captured=>match U2 tm first.toList with
  |some fs=>match U2 tm captured.toList with
   |some cs=>some (.func fn fs.toArray cs.toArray,hp)
   |none=>none
  |none=>none
 | .makeSlice t l c=>C7 hp (xnw P tm (.makeSlice t l c))
 | .slice t x lo hi mx=>match a8 tm x with
  |some v=>match ae5 tm lo with
   |some l=>match ae5 tm hi with
    |some h=>match ae5 tm mx with
     |some m=>o9 P hp t v l h m
     |none=>none
    |none=>none
   |none=>none
  |none=>none
 | .fieldAddr t x f=>match a8 tm x with
  |some v=>d8 hp (D2 P t v f)
  |none=>none
 | .field t x f=>match a8 tm x with
  |some v=>d8 hp (ah4 P t v f)
  |none=>none
 | .indexAddr t x i=>match a8 tm x with
  |some v=>match a8 tm i with
   |some u=>d8 hp (k8 P t v u)
   |none=>none
  |none=>none
 | .index t x i=>match a8 tm x with
  |some v=>match a8 tm i with
   |some u=>d8 hp (ac0 P t v u)
   |none=>none
  |none=>none
 | .extract x i=>match a8 tm x with
  |some v=>d8 hp (P0 v i)
  |none=>none
 | .call c=>match U2 tm c.args.toList with
  |some args=>match c.callee with
   | .builtin b=>A6 P hp b c.argTypes.toList args
   | .value f=>match a8 tm f with
    |some v=>ar3 P call hp v args
    |none=>none
   |_=>none
  |none=>none
 |_=>none
theorem a9 (P:Program)(call:c8)(tm:T Value)(hp:Hp)(o:Op):xop P call tm hp o=d9 P call tm hp o:=by cases o<;>rfl
def RF (r:Option Nat):Fence:= {Fence.wide with round:=r}
theorem d5 {P:Program}{r:Option Nat}{o:Oper}{a:Act}{w:World}{next:Act->World->Prop}{Q:Exit->Act->World->Prop}(nd:∀c,o.op≠ .defer c)(h:o.wp P a w next Q):o.wpIn (RF r) 0 P a w next Q:=by
 have hd:(RF r).depth.isSome=true->1<=0:=fun h=>by cases h
 refine⟨fun _ _=>trivial,?_⟩
 rw[Oper.semAt_eq _ _ _ nd];unfold Oper.wp at h;generalize (execOp a.eval o).run P w=x at h;cases x with
 |ok n w'=>
  cases n<;>simp only[Oper.upon]at h<;>simp only[Oper.uponIn]<;>first
   |exact h
   |exact⟨hd,(show CallsIn Fence.wide _ P _ _ _ _ from callsIn_wide.2 h)⟩
   |exact⟨hd,fun c cs _=>let⟨v,w',r,s⟩:=h c cs;⟨v,w',r,(show StepsIn (Machine.fenced P Fence.wide) P _ _ from stepsIn_wide.2 s)⟩⟩
 |halt x w'=>cases x<;>simp only[Oper.upon]at h<;>simp only[Oper.uponIn]<;>exact h
structure B5 (P:Program)(call:c8):Prop where
 run:∀g args hp v hp',call.run g args hp=some (v,hp')-> ∀B w0 σ w args',VRL σ args args'->HR B w0 σ hp w->
  Calls P g args'.toArray w (fun e w'=>∃σ' u,e= .returned u/\Sg.gr hp.nx hp'.nx σ σ'/\VR σ' v u/\HR B w0 σ' hp' w')
 ov:∀g t,call.ov g=some t->Z2 P g t
 round:∀i args hp v hp',call.round i args hp=some (v,hp')-> ∀B w0 σ w args' p,σ i=some p->VRL σ args args'->HR B w0 σ hp w->
  ∃r,w.heap[p.blk]? =some (.loop r)/\args'.length=r.params.size/\
   RoundIn Fence.wide 0 P p.blk r.fn ((r.params.zip args'.toArray).foldl (fun tmps (t,a)=>tmps.setIfInBounds t a) r.tmps) r.assign r.body w (fun e w'=>∃σ' u,e= .returned u/\Sg.gr hp.nx hp'.nx σ σ'/\VR σ' v u/\HR B w0 σ' hp' w')
section
variable {P :Program}{B:BS}{w0:World}{σ:Sg}{hp:Hp}{w:World}
variable {v:Value}
theorem MOK.of_pure {u:Value}{s:Sem Value}(h1:VR σ v u)(h2:∀w,s.run P w= .ok u w)(f:HR B w0 σ hp w):MOK hp B w0 σ v hp (s.run P w):=
 ⟨σ,u,w,h2 w,Sg.gr_refl _ σ,h1,f⟩
theorem aA4 {b : Builtin} {ats : Array TypeId} {args : List Value} {args' : List Value}  {hp' : Hp} (h : A6 P hp b ats.toList args = some (v, hp'))
  (l:VRL σ args args') (j:HR B w0 σ hp w) (ty:TypeId) (cs:Array Bool):
  ∃σ' u w',(builtin b ats ty cs args'.toArray).run P w= .ok (.value u) w'/\Sg.gr hp.nx hp'.nx σ σ'/\VR σ' v u/\HR B w0 σ' hp' w':=by
 have   g : ∀ {s : Sem Value}, MOK hp B w0 σ v hp' (s.run P w) → builtin b ats ty cs args'.toArray = (do pure (.value (← s)) : Sem Next) →
   ∃σ' u w',(builtin b ats ty cs args'.toArray).run P w= .ok (.value u) w'/\Sg.gr hp.nx hp'.nx σ σ'/\VR σ' v u/\HR B w0 σ' hp' w':=by
  intro s hm he;obtain⟨σ',u,w',h1,h2,h3,h4⟩:=hm;refine⟨σ',u,w',?_,h2,h3,h4⟩
  simp_all
 unfold A6 at h;split at h
 ·rename_i t u s x f
  obtain⟨s',r,rfl,hs,hr⟩:=l.uncons;obtain⟨x',r,rfl,hx,hr⟩:=hr.uncons;rw[hr.unnil]at*;have:ats= #[t,u]:=by apply bH9;exact f
  subst this;split at h
  ·rename_i r n
   cases h;exact g (aC9 n hs hx j ty) rfl
  ·exact g (aA3 h hs hx j ty) rfl
 ·rename_i t x f
  obtain⟨x',r,rfl,hx,hr⟩:=l.uncons;rw[hr.unnil]at*;have:ats= #[t]:=by apply bH9;exact f
  subst this;exact g (aL0 h hx j ty) rfl
 ·rename_i t u d x f
  obtain⟨s',r,rfl,hs,hr⟩:=l.uncons;obtain⟨x',r,rfl,hx,hr⟩:=hr.uncons;rw[hr.unnil]at*;have:ats= #[t,u]:=by apply bH9;exact f
  subst this;exact g (aS7 h hs hx j ty) rfl
 ·rename_i t x f
  obtain⟨x',r,rfl,hx,hr⟩:=l.uncons;rw[hr.unnil]at*;obtain⟨i,rfl⟩:=e9 h;have:ats= #[t]:=by apply bH9;exact f
  subst this;obtain⟨h1,h2⟩:=aS8 (P:=P) i hx j ty #[t] rfl;exact g (s:=Builtin.len_ #[t] ty #[x']) ⟨σ,_,w,h2,Sg.gr_refl _ σ,h1,j⟩ rfl
 ·rename_i t x f
  obtain⟨x',r,rfl,hx,hr⟩:=l.uncons;rw[hr.unnil]at*;obtain⟨i,rfl⟩:=e9 h;have:ats= #[t]:=by apply bH9;exact f
  subst this;obtain⟨p,h1,h2⟩:=aZ1 (P:=P) i hx ty #[t] rfl;exact g (MOK.of_pure h1 h2 j) rfl
 ·rename_i x xs
  obtain⟨x',r,rfl,hx,hr⟩:=l.uncons;obtain⟨i,rfl⟩:=e9 h;obtain⟨h1,h2⟩:=aB0 (P:=P) i hx hr;exact g (s:=Builtin.min_ ats ty (x'::r).toArray) (MOK.of_pure h1 h2 j) rfl
 ·rename_i x xs
  obtain⟨x',r,rfl,hx,hr⟩:=l.uncons;obtain⟨i,rfl⟩:=e9 h;obtain⟨h1,h2⟩:=aA9 (P:=P) i hx hr;exact g (s:=Builtin.max_ ats ty (x'::r).toArray) (MOK.of_pure h1 h2 j) rfl
 ·cases h
theorem V7 {g : FuncId} {fn : Func} {args : Array Value} (hf : P.funcs[g]? = some fn) ( f : O7 fn = true) (w : World) :
  (callFunc g args).run P w= .ok (.enter g args) w:=by
 simp only[O7,bA2,bE7]at f;have hb:fn.body.isNone=false:=by simp_all
 simp only[callFunc,bD0,bJ4,bC6,hf,f.2,hb,bH1,if_false,bD5]
variable {tm:T Value}
set_option maxHeartbeats 2000000 in
theorem aH1  {o : Oper} {n : Nw} (h : xnw P tm o.op = some n) {a : Act} (ht : ∀ x ∈ o.op.operands, ∀ v, a8 tm x = some v → VR σ v (a.eval x)) :
  ∃s:Sem Value,execOp a.eval o=(do pure (.value (<-s)):Sem Next)/\ai2 P σ n s:=by
 obtain⟨dst,op,type,pos,after,guard⟩:=o;cases op
 case alloc e=>exact⟨_,rfl,aC8 h⟩
 case box e x=>
  simp only[xnw]at h;split at h
  ·rename_i v q
   simp only[bA1]at h;subst h;exact⟨_,rfl,aS5 (ht x (by simp[Op.operands]) _ q)⟩
  ·cases h
 case buildSlice t len parts=>
  simp only[xnw]at h;split at h
  ·rename_i ps f
   have hp1:=ah8 (σ:=σ) (a:=a) (fun p hp=>ht p.2 (by simp only[Op.operands,List.mem_toArray];exact bI1.2 ⟨p,hp,rfl⟩)) f
   exact⟨_,rfl,aZ0 (ys:=parts.map fun(i,x)=>(i,a.eval x)) h (by simpa using hp1)⟩
  ·cases h
 case makeSlice t l c=>
  simp only[xnw]at h;split at h
  ·rename_i lv hl
   split at h
   ·rename_i z hc
    exact⟨_,rfl,aZ6 h (ht l (by simp[Op.operands]) _ hl) (ht c (by simp[Op.operands]) _ hc)⟩
   ·cases h
  ·cases h
 case makeMap t r=>
  simp only[xnw]at h;split at h
  ·rename_i u hr
   split at h
   ·rename_i kt A j
    have g:=al9 (σ:=σ) (a:=a) (fun y hy=>ht y (by subst hy;simp[Op.operands])) hr
    refine⟨_,rfl,aS9 h ?_ (by rw[j];exact trivial)⟩
    unfold OVR at g;cases u<;>cases r<;>simp_all
   ·cases h
  ·cases h
 case range t x=>
  simp only[xnw]at h;split at h
  ·rename_i C hx
   exact⟨_,rfl,aD1 h (ht x (by simp[Op.operands]) _ hx)⟩
  ·cases h
 all_goals (simp only[xnw,reduceCtorEq]at h)
set_option maxHeartbeats 2000000 in
theorem U3 {call : c8} (    G : B5 P call)  {o : Oper}  {hp' : Hp}
  (h:xop P call tm hp o.op=some (v,hp')) {a:Act} (ht:∀x∈o.op.operands,∀v,a8 tm x=some v->VR σ v (a.eval x)) (A:HR B w0 σ hp w) (next:Act->World->Prop) (Q:Exit->Act->World->Prop)
  (hn:∀σ' u w',Sg.gr hp.nx hp'.nx σ σ'->VR σ' v u->HR B w0 σ' hp' w'->next (a.put o.dst u) w') (r:Option Nat):o.wpIn (RF r) 0 P a w next Q:=by
 have val:∀ {s:Sem Value},MOK hp B w0 σ v hp' (s.run P w)->execOp a.eval o=(do pure (.value (<-s)):Sem Next)->o.wp P a w next Q:=by
  intro s hm he;obtain⟨σ',u,w',h1,h2,h3,h4⟩:=hm;unfold Oper.wp;rw[he];simp only[bD0,h1,bC6,bD5,bJ2];exact hn σ' u w' h2 h3 h4
 have   E : ∀ {s : Sem Value} {x : Option Value}, d8 hp x = some (v, hp') → (x = some v → ∃ u, VR σ v u ∧ ∀ w, s.run P w = .ok u w) →
   execOp a.eval o=(do pure (.value (<-s)):Sem Next)->o.wp P a w next Q:=by
  intro s x hx hs he;obtain⟨D,rfl⟩:=e9 hx;obtain⟨u,h1,h2⟩:=hs D;exact val (MOK.of_pure h1 h2 A) he
 have I:∀(q:Op),C7 hp (xnw P tm q)=some (v,hp')->o.op=q->o.wp P a w next Q:=by
  intro q hx hq;cases U:xnw P tm q with
  |none=>rw[U]at hx;cases hx
  |some n=>
   rw[U]at hx;simp only[C7,bA1]at hx;obtain⟨s,h1,h2⟩:=aH1 (P:=P) (σ:=σ) (o:=o) (by rw[hq];exact U) ht
   have hm:=h2.mok A;rw[hx]at hm;exact val hm h1
 obtain⟨dst,op,type,pos,after,guard⟩:=o;cases op
 case move x=>
  refine d5 (fun _ h=>by cases h) ?_
  simp only[a9,d9]at h;obtain⟨D,rfl⟩:=e9 h;exact hn σ _ w (Sg.gr_refl _ σ) (ht _ (by simp[Op.operands]) _ D) A
 case assign x=>
  refine d5 (fun _ h=>by cases h) ?_
  simp only[a9,d9]at h;obtain⟨D,rfl⟩:=e9 h;exact hn σ _ w (Sg.gr_refl _ σ) (ht _ (by simp[Op.operands]) _ D) A
 case pick c x y=>
  refine d5 (fun _ h=>by cases h) ?_
  simp only[a9,d9]at h;split at h
  ·rename_i t hc
   have X:=ht _ (by simp[Op.operands]) _ hc
   generalize W:a.eval c=cv at X;cases X;cases t with
   |true=>
    rw[bB8]at h;obtain⟨D,rfl⟩:=e9 h;unfold Oper.wp;simp only[execOp,W,asBool,bD0,bD5,bC6,bI6,bJ2];exact hn σ _ w (Sg.gr_refl _ σ) (ht _ (by simp[Op.operands]) _ D) A
   |false=>
    rw[bB9]at h;obtain⟨D,rfl⟩:=e9 h;unfold Oper.wp;simp only[execOp,W,asBool,bD0,bD5,bC6,bH1,if_false,bJ2];exact hn σ _ w (Sg.gr_refl _ σ) (ht _ (by simp[Op.operands]) _ D) A
  ·cases h
 case alloc e=>exact d5 (fun _ h=>by cases h) (I (.alloc e) h rfl)
 case box e x=>exact d5 (fun _ h=>by cases h) (I (.box e x) h rfl)
 case makeMap t r=>exact d5 (fun _ h=>by cases h) (I (.makeMap t r) h rfl)
 case range t x=>exact d5 (fun _ h=>by cases h) (I (.range t x) h rfl)
 case next it isS=>
  refine d5 (fun _ h=>by cases h) ?_
  simp only[a9,d9]at h;split at h
  ·rename_i F hx
   exact val (aT0 h (ht _ (by simp[Op.operands]) _ hx) A type) rfl
  ·cases h
 case lookup t x k ok=>
  refine d5 (fun _ h=>by cases h) ?_
  simp only[a9,d9]at h;split at h
  ·rename_i F hx
   split at h
   ·rename_i kv hk
    obtain⟨K,rfl⟩:=e9 h;obtain⟨u,h1,h2⟩:=aD0 K (ht _ (by simp[Op.operands]) _ hx) (ht _ (by simp[Op.operands]) _ hk) A
    exact val ⟨σ,u,w,h2,Sg.gr_refl _ σ,h1,A⟩ rfl
   ·cases h
  ·cases h
 case mapUpdate t m k x=>
  refine d5 (fun _ h=>by cases h) ?_
  simp only[a9,d9]at h;split at h
  ·rename_i mv hm
   split at h
   ·rename_i kv hk
    split at h
    ·rename_i F hx
     split at h
     ·rename_i hp2 H
      simp only[bA1,bA3]at h;obtain⟨rfl,rfl⟩:=h;obtain⟨w',h1,h2,h3⟩:=af6 H (ht _ (by simp[Op.operands]) _ hm) (ht _ (by simp[Op.operands]) _ hk) (ht _ (by simp[Op.operands]) _ hx) A
      unfold Oper.wp;simp only[execOp,bD0,h1,bC6,bD5,Oper.upon_skip];exact hn σ undef w' (by rw[h3];exact Sg.gr_refl _ σ) (VR.undef σ) h2
     ·cases h
    ·cases h
   ·cases h
  ·cases h
 case mapEntry t m k=>
  refine d5 (fun _ h=>by cases h) ?_
  simp only[a9,d9]at h;split at h
  ·rename_i mv hm
   split at h
   ·rename_i kv hk
    exact val (at3 h (ht _ (by simp[Op.operands]) _ hm) (ht _ (by simp[Op.operands]) _ hk) A) rfl
   ·cases h
  ·cases h
 case entryStore t m s x=>
  refine d5 (fun _ h=>by cases h) ?_
  simp only[a9,d9]at h;split at h
  ·rename_i mv hm
   split at h
   ·rename_i sv ah
    split at h
    ·rename_i F hx
     split at h
     ·rename_i hp2 H
      simp only[bA1,bA3]at h;obtain⟨rfl,rfl⟩:=h;obtain⟨w',h1,h2,h3⟩:=al4 (P:=P) (t:=t) H (ht _ (by simp[Op.operands]) _ hm) (ht _ (by simp[Op.operands]) _ ah) (ht _ (by simp[Op.operands]) _ hx) A
      unfold Oper.wp;simp only[execOp,bD0,h1,bC6,bD5,Oper.upon_skip];exact hn σ undef w' (by rw[h3];exact Sg.gr_refl _ σ) (VR.undef σ) h2
     ·cases h
    ·cases h
   ·cases h
  ·cases h
 case insert t m k x=>
  refine d5 (fun _ h=>by cases h) ?_
  simp only[a9,d9]at h;split at h
  ·rename_i mv hm
   split at h
   ·rename_i kv hk
    split at h
    ·rename_i F hx
     split at h
     ·rename_i hp2 H
      simp only[bA1,bA3]at h;obtain⟨rfl,rfl⟩:=h;obtain⟨w',h1,h2,h3⟩:=af6 H (ht _ (by simp[Op.operands]) _ hm) (ht _ (by simp[Op.operands]) _ hk) (ht _ (by simp[Op.operands]) _ hx) A
      unfold Oper.wp;simp only[execOp,bD0,h1,bC6,bD5,Oper.upon_skip];exact hn σ undef w' (by rw[h3];exact Sg.gr_refl _ σ) (VR.undef σ) h2
     ·cases h
    ·cases h
   ·cases h
  ·cases h
 case build t parts=>
  refine d5 (fun _ h=>by cases h) ?_
  simp only[a9,d9]at h;split at h
  ·rename_i ps ae
   have hp1:=ah8 (fun p hp=>ht p.2 (by simp only[Op.operands,List.mem_toArray];exact bI1.2 ⟨p,hp,rfl⟩)) ae
   exact E h (fun hx=>aK9 (ys:=parts.map fun(i,x)=>(i,a.eval x)) hx (by simpa using hp1)) rfl
  ·cases h
 case buildSlice t len parts=>exact d5 (fun _ h=>by cases h) (I (.buildSlice t len parts) h rfl)
 case load t x=>
  refine d5 (fun _ h=>by cases h) ?_
  simp only[a9,d9]at h;split at h
  ·rename_i F hx
   obtain⟨K,rfl⟩:=e9 h;obtain⟨u,h1,h2⟩:=ar6 K (ht _ (by simp[Op.operands]) _ hx) A
   exact val ⟨σ,u,w,h2,Sg.gr_refl _ σ,h1,A⟩ rfl
  ·cases h
 case store t x y=>
  refine d5 (fun _ h=>by cases h) ?_
  simp only[a9,d9]at h;split at h
  ·rename_i F hx
   split at h
   ·rename_i yv hy
    split at h
    ·rename_i hp2 H
     simp only[bA1,bA3]at h;obtain⟨rfl,rfl⟩:=h;obtain⟨w',h1,h2,h3⟩:=aM0 H (ht _ (by simp[Op.operands]) _ hx) (ht _ (by simp[Op.operands]) _ hy) A
     unfold Oper.wp;simp only[execOp,bD0,h1,bC6,bD5,Oper.upon_skip];exact hn σ undef w' (by rw[h3];exact Sg.gr_refl _ σ) (VR.undef σ) h2
    ·cases h
   ·cases h
  ·cases h
 case nilCheck x=>
  refine d5 (fun _ h=>by cases h) ?_
  simp only[a9,d9]at h;split at h
  ·rename_i p hx
   simp only[bA1,bA3]at h;obtain⟨rfl,rfl⟩:=h;have Z:=ht _ (by simp[Op.operands]) _ hx
   generalize V:a.eval x=F at Z;cases Z with
   |ptr i o q hq=>
   unfold Oper.wp;simp only[execOp,V,bD5,bJ2];exact hn σ _ w (Sg.gr_refl _ σ) (.ptr i o q hq) A
  ·rename_i f fa fb hx
   simp only[bA1,bA3]at h;obtain⟨rfl,rfl⟩:=h;have Z:=ht _ (by simp[Op.operands]) _ hx
   generalize V:a.eval x=F at Z;cases Z with
   |func _ _ ys _ ds h1 h2 h3 h4=>
   unfold Oper.wp;simp only[execOp,V,bD5,bJ2];exact hn σ _ w (Sg.gr_refl _ σ) (.func _ _ ys _ ds h1 h2 h3 h4) A
  ·cases h
 case binOp op t x y yt=>
  refine d5 (fun _ h=>by cases h) ?_
  simp only[a9,d9]at h;split at h
  ·rename_i F hx
   split at h
   ·rename_i yv hy
    obtain⟨K,rfl⟩:=e9 h;obtain⟨u0,h1,h2⟩:=aS2 (P:=P) K (ht _ (by simp[Op.operands]) _ hx) (ht _ (by simp[Op.operands]) _ hy) x y
    unfold Oper.wp;simp only[execOp,bD0,(h2 w).1,(h2 w).2,bC6,bD5,bJ2];exact hn σ _ w (Sg.gr_refl _ σ) h1 A
   ·cases h
  ·cases h
 case unOp op t x=>
  refine d5 (fun _ h=>by cases h) ?_
  simp only[a9,d9]at h;split at h
  ·rename_i F hx
   exact E h (fun hh=>⟨_,bj8 hh (ht _ (by simp[Op.operands]) _ hx)⟩) rfl
  ·cases h
 case convert s d x=>
  refine d5 (fun _ h=>by cases h) ?_
  simp only[a9,d9]at h;split at h
  ·rename_i F hx
   exact E h (fun hh=>aS6 hh (ht _ (by simp[Op.operands]) _ hx)) rfl
  ·cases h
 case makeInterface t x=>
  refine d5 (fun _ h=>by cases h) ?_
  simp only[a9,d9]at h;split at h
  ·rename_i F hx
   exact E h (fun hh=>aL3 hh (ht _ (by simp[Op.operands]) _ hx)) rfl
  ·cases h
 case makeFunc fn first z=>
  refine d5 (fun _ h=>by cases h) ?_
  simp only[a9,d9]at h;split at h
  ·rename_i fs ac
   split at h
   ·rename_i cs aa
    simp only[bA1,bA3]at h;obtain⟨rfl,rfl⟩:=h;have v1:=al5 (fun y hy=>ht y (by simp only[Op.operands,Array.mem_append];exact .inl (by simpa using hy))) ac
    have v2:=al5 (fun y hy=>ht y (by simp only[Op.operands,Array.mem_append];exact .inr (by simpa using hy))) aa
    refine hn σ (.func fn (first.map a.eval) (z.map a.eval)) w (Sg.gr_refl _ σ) (.func _ _ _ _ _ ?_ ?_ ?_ ?_) A
    ·have:=v1.1;simpa using this
    ·intro i x y h1 h2;exact v1.2 i x y (by simpa using h1) (by simpa using h2)
    ·have:=v2.1;simpa using this
    ·intro i x y h1 h2;exact v2.2 i x y (by simpa using h1) (by simpa using h2)
   ·cases h
  ·cases h
 case makeSlice t l c=>exact d5 (fun _ h=>by cases h) (I (.makeSlice t l c) h rfl)
 case slice t x lo hi mx=>
  refine d5 (fun _ h=>by cases h) ?_
  simp only[a9,d9]at h;split at h
  ·rename_i F hx
   split at h
   ·rename_i l hl
    split at h
    ·rename_i hh ad
     split at h
     ·rename_i m hm
      exact val (aL7 h (ht _ (by simp[Op.operands]) _ hx) (al9 (fun y hy=>ht y (by subst hy;simp[Op.operands])) hl) (al9 (fun y hy=>ht y (by subst hy;simp[Op.operands])) ad) (al9 (fun y hy=>ht y (by subst hy;simp[Op.operands])) hm) A) rfl
     ·cases h
    ·cases h
   ·cases h
  ·cases h
 case fieldAddr t x f=>
  refine d5 (fun _ h=>by cases h) ?_
  simp only[a9,d9]at h;split at h
  ·rename_i F hx
   exact E h (fun hh=>ao9 hh (ht _ (by simp[Op.operands]) _ hx)) rfl
  ·cases h
 case field t x f=>
  refine d5 (fun _ h=>by cases h) ?_
  simp only[a9,d9]at h;split at h
  ·rename_i F hx
   exact E h (fun hh=>aL2 hh (ht _ (by simp[Op.operands]) _ hx)) rfl
  ·cases h
 case indexAddr t x i=>
  refine d5 (fun _ h=>by cases h) ?_
  simp only[a9,d9]at h;split at h
  ·rename_i F hx
   split at h
   ·rename_i iv hi
    exact E h (fun hh=>ap0 hh (ht _ (by simp[Op.operands]) _ hx) (ht _ (by simp[Op.operands]) _ hi)) rfl
   ·cases h
  ·cases h
 case index t x i=>
  refine d5 (fun _ h=>by cases h) ?_
  simp only[a9,d9]at h;split at h
  ·rename_i F hx
   split at h
   ·rename_i iv hi
    exact E h (fun hh=>aL4 hh (ht _ (by simp[Op.operands]) _ hx) (ht _ (by simp[Op.operands]) _ hi)) rfl
   ·cases h
  ·cases h
 case extract x i=>
  refine d5 (fun _ h=>by cases h) ?_
  simp only[a9,d9]at h;split at h
  ·rename_i F hx
   exact E h (fun hh=>aA6 hh (ht _ (by simp[Op.operands]) _ hx)) rfl
  ·cases h
 case call c=>
  simp only[a9,d9]at h;obtain⟨N,j,J⟩:=c;split at h
  ·rename_i args S
   have O:=al5 (fun y hy=>ht y (by simp only[Op.operands,Call.operands,Array.mem_append];exact .inr (by simpa using hy))) S
   cases N with
   |invoke r m=>simp only[reduceCtorEq]at h
   |builtin b=>
    refine d5 (fun _ h=>by cases h) ?_
    simp only at h;obtain⟨σ',u,w',h1,h2,h3,h4⟩:=aA4 (ty:=type) (cs:=j.map fun| .const _=>true|_=>false) h O A
    unfold Oper.wp;have C:(j.toList.map a.eval).toArray=j.map a.eval:=by apply bH9;simp
    rw[C]at h1;have L:(execOp a.eval ⟨dst,.call ⟨.builtin b,j,J⟩,type,pos,after,guard⟩).run P w= .ok (.value u) w':=by
     simp only[execOp,resolve,invoke,bD0,bD5,bC6];exact h1
    rw[L];exact hn σ' u w' h2 h3 h4
   |value f=>
    simp only at h;split at h
    ·rename_i fv hf
     have R:=ht _ (by simp[Op.operands,Call.operands]) _ hf
     unfold ar3 at h;split at h
     ·rename_i g first z
      refine d5 (fun _ h=>by cases h) ?_
      generalize T:a.eval f=fe at R;cases R with
      |func _ _ ys _ ds q1 q2 q3 q4=>
      split at h
      ·rename_i fn ab
       have vf:VRL σ first.toList ys.toList:=⟨by simpa using q1,fun i x y h1 h2=>q2 i x y (by simpa using h1) (by simpa using h2)⟩
       have vc:VRL σ z.toList ds.toList:=⟨by simpa using q3,fun i x y h1 h2=>q4 i x y (by simpa using h1) (by simpa using h2)⟩
       have C:(ys.toList++j.toList.map a.eval++ds.toList).toArray=ys++j.map a.eval++ds:=by apply bH9;simp
       have M:(execOp a.eval ⟨dst,.call ⟨.value f,j,J⟩,type,pos,after,guard⟩).run P w=(callFunc g (ys++j.map a.eval++ds)).run P w:=by
        simp only[execOp,resolve,T,Deferred.ofValue,invoke,bD0,bD5,bC6]
       cases ho:O7 fn with
       |false=>
        rw[ho,bB9]at h;split at h
        ·rename_i t0 ai
         have Y:t0≠af4:=fun e=>by rw[e,l8 rfl]at h;cases h
         rw[n8 Y,bB9]at h;obtain⟨rfl,u,h1,h2⟩:=aT2 ((G.ov g t0 ai).resolve_left fun e=>Y e.1).2 h ((vf.append O).append vc) A
         rw[C]at h2;unfold Oper.wp;rw[M,h2,bJ2];exact hn σ u w (Sg.gr_refl _ σ) h1 A
        ·cases h
       |true=>
        rw[ho,bB8]at h;have hc:=G.run g _ hp v hp' h B w0 σ w _ ((vf.append O).append vc) A;rw[C]at hc;unfold Oper.wp;rw[M,V7 ab ho w,Oper.upon_enter];refine hc.mono fun e w' he=>?_
        obtain⟨σ',u,rfl,h2,h3,h4⟩:=he;exact hn σ' u w' h2 h3 h4
      ·cases h
     ·rename_i i
      generalize T:a.eval f=fe at R;cases R with
      |yield _ p hp0=>
      obtain⟨aj,k1,k2,k3⟩:=G.round i args hp v hp' h B w0 σ w _ p hp0 O A;have C:(j.toList.map a.eval).toArray=j.map a.eval:=by apply bH9;simp
      have L:(execOp a.eval ⟨dst,.call ⟨.value f,j,J⟩,type,pos,after,guard⟩).run P w=(Instr.yield p.blk (j.map a.eval)).run P w:=by
       simp only[execOp,resolve,T,Deferred.ofValue,invoke,bD0,bD5,bC6]
       congr 2
       simp
      refine⟨fun _ _=>trivial,?_⟩
      rw[Oper.semAt_eq _ _ _ (fun _ h=>by cases h),L,run_yield k1 (by rw[<-k2];simp),Oper.uponIn_round]
      refine⟨(fun h=>by cases h),?_⟩
      rw[C]at k3;refine(show RoundIn (RF r) _ P _ _ _ _ _ _ _ from k3).mono fun e w' he=>?_
      obtain⟨σ',u,rfl,h2,h3,h4⟩:=he;exact hn σ' u w' h2 h3 h4
     ·cases h
    ·cases h
  ·cases h
 all_goals (simp only[a9,d9,reduceCtorEq]at h)
end
end Go.Xe
end PartXm10
noncomputable section PartXm11
namespace Go.Xe
open Go.RowKit
def X4 (ops:List Oper)(tm:T Value)(j:Nat):Option Bool:=
 match ops[j]? with
 |some o=>match o.dst with
  |some d=>match tm.get d with
   |some (.bool b)=>some b
   |_=>none
  |none=>none
 |none=>none
def f8 (ops:List Oper)(tm:T Value)(o:Oper):Bool:=
 match o.guard with
 |none=>true
 |some (j,want)=>match X4 ops tm j with
  |some b=>b==want
  |none=>false
variable {σ:Sg}{nt:Nat}{tm:T Value}
theorem aB6    {tmps : Array Value} (h : TR σ nt tm tmps) (ops : Array Oper) (o : Oper) :
  Region.wanted o (yielded ops tmps)=f8 ops.toList tm o:=by
 unfold Region.wanted f8;cases o.guard with
 |none=>rfl
 |some l=>
  obtain⟨j,i⟩:=l;simp only;have hy:yielded ops tmps j=X4 ops.toList tm j:=by
   unfold yielded X4;rw[Array.getElem?_toList];cases hj:ops[j]? with
   |none=>rfl
   |some p=>
    simp only[Option.bind_some];cases hd:p.dst with
    |none=>rfl
    |some d=>
     simp only[Option.bind_some];have:=h.at_ d
     by_cases hlt:d<tmps.size
     ·have e:tmps[d]? =some tmps[d]:=by simp[hlt]
      have g:tmps.getD d undef=tmps[d]:=by simp_all
      rw[g]at this;rw[e];cases f:tm.get d with
      |none=>
       rw[f,Option.getD_none]at this;generalize tmps[d]=x at this;cases this;rfl
      |some v=>
       rw[f,bE3]at this;generalize tmps[d]=x at this;cases this<;>rfl
     ·have e:tmps[d]? =none:=Array.getElem?_eq_none (bH7 hlt)
      have g:tmps.getD d undef=undef:=by grind
      rw[g]at this;rw[e];cases f:tm.get d with
      |none=>rfl
      |some v=>
       rw[f,bE3]at this;unfold undef at this;cases this;rfl
  grind
def j2 (tm:T Value)(dst:Option Tmp)(v:Value):T Value:=
 match dst with
 |some d=>tm.set d (some v)
 |none=>tm
def l5 (nt:Nat)(dst:Option Tmp):Bool:=
 match dst with
 |some d=>Nat.blt d nt
 |none=>true
theorem TR.putO    {a : Act} (h : TR σ nt tm a.tmps) {dst : Option Tmp} (hd : l5 nt dst = true) {v u : Value} ( f : VR σ v u) :
  TR σ nt (j2 tm dst v) (a.put dst u).tmps:=by
 cases dst with
 |none=>exact h
 |some d=>exact h.put (bA5 hd) f
def bs2 (ih:T Value->Hp->Option (T Value×Hp))(tm:T Value)(dst:Option Tmp)(r:Option (Value×Hp)):Option (T Value×Hp):=
 Option.rec (motive:=fun _=>Option (T Value×Hp)) none (fun p=>Prod.rec (motive:=fun _=>Option (T Value×Hp)) (fun v hp=>(j2 tm dst v).force fun tm'=>ih tm' hp) p) r
def xone (P:Program)(call:c8)(nt:Nat)(all:List Oper)(o:Oper)(ih:T Value->Hp->Option (T Value×Hp))(tm:T Value)(hp:Hp):Option (T Value×Hp):=
 bif l5 nt o.dst then
  bif f8 all tm o then bs2 ih tm o.dst (xop P call tm hp o.op)
  else(j2 tm o.dst undef).force fun tm'=>ih tm' hp
 else none
def ap1 (P:Program)(call:c8)(nt:Nat)(all:List Oper)(l:List Oper):T Value->Hp->Option (T Value×Hp):=
 List.rec (motive:=fun _=>T Value->Hp->Option (T Value×Hp)) (fun tm hp=>some (tm,hp)) (fun o _ ih tm hp=>xone P call nt all o ih tm hp) l
variable {P:Program}{call:c8}{all:List Oper}{hp:Hp}
theorem ac1 :ap1 P call nt all [] tm hp=some (tm,hp):=rfl
theorem H1    {rest:List Oper} {o : Oper}   :
  ap1 P call nt all (o::rest) tm hp=bif l5 nt o.dst then
   bif f8 all tm o then
    match xop P call tm hp o.op with
    |some (v,hp')=>ap1 P call nt all rest (j2 tm o.dst v) hp'
    |none=>none
   else ap1 P call nt all rest (j2 tm o.dst undef) hp
  else none:=by
 show xone P call nt all o (ap1 P call nt all rest) tm hp=_;unfold xone;cases xop P call tm hp o.op with
 |none=>simp only[T.force_eq,bs2]
 |some r=>obtain⟨v,hp'⟩:=r;simp only[T.force_eq,bs2]
def Y6 (n:Nat)(B:BS)(w0:World)(σ:Sg)(nt:Nat)(e:Exit)(tm:T Value)(hp:Hp)(D:List Deferred):Exit->Act->World->Prop:=
 fun e' a' w'=>e'=e/\a'.defers=D/\ ∃σ',Sg.gr n hp.nx σ σ'/\TR σ' nt tm a'.tmps/\HR B w0 σ' hp w'
variable {w' w0:World}{σ':Sg}
theorem Y6.le {B : BS}   {n  g : Nat} (h : Sg.gr n  g σ σ')  {e : Exit}   {D : List Deferred} {e' : Exit} {a' : Act}  (hp' : Y6  g B w0 σ' nt e tm hp D e' a' w') :
  Y6 n B w0 σ nt e tm hp D e' a' w':=by
 obtain⟨h1,h2,f,h3,h4,h5⟩:=hp';exact⟨h1,h2,f,Sg.gr_trans h h3,h4,h5⟩
variable {r:Option Nat}
theorem K9 {ops:Array Oper}{Q p:Exit->Act->World->Prop}(hq:∀e a w,Q e a w->p e a w):∀(l:List Nat) {a:Act} {w:World},wpOpsIn (RF r) 0 P ops Q l a w->wpOpsIn (RF r) 0 P ops p l a w:=by
 have f:LetsOut Q->LetsOut p:=fun⟨a,w,h⟩=>⟨a,w,hq _ _ _ h⟩
 intro l
 induction l with
 |nil=>intro a w h;exact hq _ _ _ h
 |cons i rest j=>
  intro a w h;simp only[wpOpsIn]at h⊢;cases q:ops[i]? with
  |none=>grind
  |some o=>
   simp only[q]at h;simp only;split
   ·rename_i s
    simp only[s,bI6]at h;unfold Oper.wpIn at h⊢;refine⟨h.1,?_⟩
    replace h:=h.2
    generalize (o.semAt (RF r).round a.eval).run P w=x at h⊢;cases x with
    |ok n w'=>
     cases n<;>simp only[Oper.uponIn]at h⊢ <;>first
      |exact j h
      | (refine⟨h.1,CallsIn.mono h.2 fun e g he=>?_⟩;cases e<;>first|exact j he|exact hq _ _ _ he|exact f he)
      |exact⟨h.1,RowsIn.mono h.2 fun v g he=>j he⟩
      | (refine⟨h.1,RoundIn.mono h.2 fun e g he=>?_⟩;cases e<;>first|exact j he|exact hq _ _ _ he|exact f he)
    |halt x w'=>cases x<;>simp only[Oper.uponIn]at h⊢ <;>exact hq _ _ _ h
   ·grind
theorem R2 {P:Program}{F:Fence}{k:Nat}{c:Code}{Q f:Exit->Act->World->Prop}(hq:∀e a w,Q e a w->f e a w):∀ {n:Nat} {a:Act} {w:World},Code.roundsIn F k P c Q n a w->Code.roundsIn F k P c f n a w
 |0,_,_,h=>h.elim
 |n+1,_,_,h=>bJ6 h fun e a w he=>by
  cases e with
  |normal=>exact R2 hq he
  |_=>exact hq _ _ _ he
section
variable {P :Program}{B:BS}{w0:World}{call:c8}
theorem TR.ER {σ:Sg}{nt:Nat}{tm:T Value}{a:Act}(h:TR σ nt tm a.tmps)(xs:Array Operand):∀x∈xs,∀v,a8 tm x=some v->VR σ v (a.eval x):=
 fun _ _ _ f=>U1 h f
theorem J8 (a:Act)(dst:Option Tmp)(v:Value):(a.put dst v).defers=a.defers:=by cases dst<;>rfl
theorem aZ7 (    g : B5 P call) {nt : Nat} (ops : Array Oper) (r : Option Nat) : ∀ (l : List Oper) (k : Nat) (tm : T Value) (hp : Hp) (tm' : T Value) (hp' : Hp) (σ : Sg) (a : Act) (w : World),
  (∀j,l[j]? =ops[k+j]?)->ap1 P call nt ops.toList l tm hp=some (tm',hp')->TR σ nt tm a.tmps->HR B w0 σ hp w-> ∀D,a.defers=D->
  wpOpsIn (RF r) 0 P ops (Y6 hp.nx B w0 σ nt .normal tm' hp' D) (List.range' k l.length) a w:=by
 intro l
 induction l with
 |nil=>
  intro k tm hp tm' hp' σ a w _ h ht q D hd;simp only[ac1,bA1,bA3]at h;obtain⟨rfl,rfl⟩:=h;exact⟨rfl,hd,σ,Sg.gr_refl _ σ,ht,q⟩
 |cons o l y=>
  intro k tm hp tm' hp' σ a w hl h ht q D hd;have z:ops[k]? =some o:=by simpa using(hl 0).symm
  have i:∀j,l[j]? =ops[k+1+j]? :=fun j=>by have:=hl (j+1);simpa [bG0,Nat.add_comm 1 j]using this
  rw[H1]at h;simp only[bE4,List.range'_succ,wpOpsIn,z];cases f:l5 nt o.dst with
  |false=>grind
  |true=>
   rw[f,bB8]at h;rw[aB6 ht ops o];cases p:f8 ops.toList tm o with
   |true=>
    rw[p,bB8]at h;rw[bC3 rfl];split at h
    ·rename_i v hp1 hx
     refine U3 g hx (ht.ER _) q _ _ (fun σ' u w' n A s=>?_) r
     have t:=y (k+1) _ hp1 tm' hp' σ' (a.put o.dst u) w' i h ((ht.mono n.le).putO f A) s D (by rw[J8];exact hd)
     exact K9 (fun e a' w' hq=>Y6.le n hq) _ t
    ·cases h
   |false=>
    rw[p,bB9]at h;rw[bC1 (by simp)]
    exact⟨fun _ _=>trivial,y (k+1) _ hp tm' hp' σ _ w i h (ht.putO f (VR.undef σ)) q D (by rw[J8];exact hd)⟩
end
inductive Df where
 |mark (r:Nat)
 |call (g:FuncId) (args cap:List Value)
def DfR (σ:Sg):Df->Deferred->Prop
 | .mark r,d=>∃p,σ r=some p/\d.target= .collected p.blk
 | .call g args cap,d=>∃cap',d.target= .fn (.func g) cap'/\VRL σ args d.args.toList/\VRL σ cap cap'.toList
def DsR (σ:Sg):List Df->List Deferred->Prop
 | [],[]=>True
 |x::xs,d::ds=>DfR σ x d/\DsR σ xs ds
 |_,_=>False
theorem DfR.mono (hs:Sg.le σ σ'){x:Df}{d:Deferred}(h:DfR σ x d):DfR σ' x d:=by
 cases x with
 |mark r=>obtain⟨p,h1,h2⟩:=h;exact⟨p,hs _ _ h1,h2⟩
 |call g args cap=>obtain⟨c,h1,h2,h3⟩:=h;exact⟨c,h1,h2.mono hs,h3.mono hs⟩
theorem DsR.mono (hs:Sg.le σ σ'):∀ {xs:List Df} {ds:List Deferred},DsR σ xs ds->DsR σ' xs ds
 | [],[],_=>trivial
 |_::_,_::_,h=>⟨h.1.mono hs,DsR.mono hs h.2⟩
 | [],_::_,h=>h.elim
 |_::_,[],h=>h.elim
def ArR (σ:Sg):Option Nat->Option Nat->Prop
 |none,none=>True
 |some j,some b=>∃p,σ j=some p/\p.blk=b
 |_,_=>False
theorem ArR.mono (hs:Sg.le σ σ'){ar:Option Nat}(h:ArR σ ar r):ArR σ' ar r:=by
 cases ar<;>cases r<;>first|exact h| (obtain⟨p,h1,h2⟩:=h;exact⟨p,hs _ _ h1,h2⟩)
inductive XR where
 |mk (e:Exit) (tm:T Value) (hp:Hp) (ds:List Df)
abbrev F9:=c8->Nat->List Oper->T Value->Hp->Option (T Value×Hp)
def U7 (P:Program)(dr:F9):Prop:=
 ∀call,B5 P call-> ∀nt (ops:Array Oper) id tm hp tm' hp',dr call nt ops.toList tm hp=some (tm',hp')-> ∀B w0 σ a w,TR σ nt tm a.tmps->HR B w0 σ hp w-> ∀r,
  (Code.region id ops true).wpIn (RF r) 0 P (Y6 hp.nx B w0 σ nt .normal tm' hp' a.defers) a w
def aB3 (R:Option (Value×Hp))(l:Nat)(tm:T Value)(ds:List Df):Option XR:=
 match R with
 |some (_,hp)=>match hp.m.get l with
  |some (.loop .ready pend _ _ _ _ _ _)=>match pend with
   |none=>some (.mk .normal tm {hp with m:=hp.m.set l none} ds)
   |some _=>none
  |some (.loop .done pend _ _ _ _ _ _)=>match pend with
   |some .ret=>some (.mk .ret tm {hp with m:=hp.m.set l none} ds)
   |some (.exit id)=>some (.mk (.exit id) tm {hp with m:=hp.m.set l none} ds)
   |_=>none
  |_=>none
 |none=>none
def X0 (P : Program) (call : c8) (nt : Nat) (ar : Option Nat) (f : Operand) (ps : Array Tmp) (assign body : Code) (tm : T Value) (hp : Hp) (ds : List Df) : Option XR :=
 match a8 tm f with
 | some (.func (.func g) first captured) => match P.funcs[g]? with
  | some fn => bif O7 fn then
    match ar with
    |none=>aB3 (call.run g (first.toList++ [.chan (some (hp.nx+1))]++captured.toList) ⟨(hp.m.set hp.nx (some .dfr)).set (hp.nx+1) (some (.loop .ready none nt tm ps assign body hp.nx)),hp.nx+2⟩) (hp.nx+1) tm (.mark hp.nx::ds)
    |some j=>match hp.m.get j with
     |some (.loop _ _ _ _ _ _ _ db)=>aB3 (call.run g (first.toList++ [.chan (some hp.nx)]++captured.toList) ⟨hp.m.set hp.nx (some (.loop .ready none nt tm ps assign body db)),hp.nx+1⟩) hp.nx tm ds
     |_=>none
   else none
  |none=>none
 |_=>none
def aZ3 (tm:T Value)(c:Call):Option Df:=
 match c.callee with
 | .value f=>match a8 tm f with
  |some (.func (.func g) first captured)=>match U2 tm c.args.toList with
   |some args=>some (.call g (first.toList++args) captured.toList)
   |none=>none
  |_=>none
 |_=>none
def aH7 :Op->Option Call
 | .defer c=>some c
 |_=>none
def Q5 (P:Program)(call:c8)(nt:Nat)(all:List Oper):List Oper->T Value->Hp->List Df->Option (T Value×Hp×List Df)
 | [],tm,hp,ds=>some (tm,hp,ds)
 |o::rest,tm,hp,ds=>
  bif l5 nt o.dst then
   bif f8 all tm o then
    match aH7 o.op with
    |some c=>match aZ3 tm c with
     |some d=>Q5 P call nt all rest (j2 tm o.dst undef) hp (d::ds)
     |none=>none
    |none=>match xop P call tm hp o.op with
     |some (v,hp')=>Q5 P call nt all rest (j2 tm o.dst v) hp' ds
     |none=>none
   else Q5 P call nt all rest (j2 tm o.dst undef) hp ds
  else none
def aT4 (P:Program)(call:c8)(nt:Nat)(ar:Option Nat)(ops:List Oper)(draw:Bool)(tm:T Value)(hp:Hp)(ds:List Df):Option XR:=
 match ar with
 |some _=>none
 |none=>bif draw then none else match Q5 P call nt ops ops tm hp ds with
  |some (tm',hp',ds')=>some (.mk .normal tm' hp' ds')
  |none=>none
def d7 (P:Program)(dr:F9)(call:c8)(nt:Nat)(ar:Option Nat):Nat->Code->T Value->Hp->List Df->Option XR
 |0,_,_,_,_=>none
 |m+1,c,tm,hp,ds=>match c with
  | .skip=>some (.mk .normal tm hp ds)
  | .label _=>some (.mk .normal tm hp ds)
  | .region _ ops draw=>match(bif draw then dr call nt ops.toList tm hp else ap1 P call nt ops.toList ops.toList tm hp)with
   |some (tm',hp')=>some (.mk .normal tm' hp' ds)
   |none=>aT4 P call nt ar ops.toList draw tm hp ds
  | .seq x y=>match d7 P dr call nt ar m x tm hp ds with
   |some (.mk .normal tm' hp' ds')=>d7 P dr call nt ar m y tm' hp' ds'
   |r=>r
  | .cond c x y=>match a8 tm c with
   |some (.bool true)=>d7 P dr call nt ar m x tm hp ds
   |some (.bool false)=>d7 P dr call nt ar m y tm hp ds
   |_=>none
  | .block id b=>match d7 P dr call nt ar m b tm hp ds with
   |some (.mk (.exit j) tm' hp' ds')=>bif Nat.beq j id then some (.mk .normal tm' hp' ds')else some (.mk (.exit j) tm' hp' ds')
   |r=>r
  | .loop b=>match d7 P dr call nt ar m b tm hp ds with
   |some (.mk .normal tm' hp' ds')=>d7 P dr call nt ar m (.loop b) tm' hp' ds'
   |r=>r
  | .exit id=>some (.mk (.exit id) tm hp ds)
  | .ret=>some (.mk .ret tm hp ds)
  | .scope b=>match d7 P dr call nt ar m b tm hp ds with
   |some (.mk .normal tm' hp' ds')=>some (.mk .normal tm' hp' ds')
   |some (.mk (.exit j) tm' hp' ds')=>some (.mk (.exit j) tm' hp' ds')
   |some (.mk .ret tm' hp' ds')=>some (.mk .ret tm' hp' ds')
   |_=>none
  | .rangeFunc f ps assign body=>X0 P call nt ar f ps assign body tm hp ds
  |_=>none
def E3 (n:Nat)(B:BS)(w0:World)(σ:Sg)(nt:Nat)(e:Exit)(tm:T Value)(hp:Hp)(ds:List Df):Exit->Act->World->Prop:=
 fun e' a' w'=>e'=e/\ ∃σ',Sg.gr n hp.nx σ σ'/\DsR σ' ds a'.defers/\TR σ' nt tm a'.tmps/\HR B w0 σ' hp w'
theorem E3.le {B : BS}   {n  g : Nat} (h : Sg.gr n  g σ σ')  {e : Exit}   {ds : List Df} {e' : Exit} {a' : Act}  (hp' : E3  g B w0 σ' nt e tm hp ds e' a' w') :
  E3 n B w0 σ nt e tm hp ds e' a' w':=by
 obtain⟨h1,f,h3,h2,h4,h5⟩:=hp';exact⟨h1,f,Sg.gr_trans h h3,h2,h4,h5⟩
section
variable {P :Program}{B:BS}{w0:World}{call:c8}{dr:F9}
variable {b:Frame}{a:Act}{k:List Item}{cs:List Frame}{w:World}{c:Code}
theorem G8 :step P (lone (b.atR a (.code (.scope c)::k)) cs w)= .next (lone (b.atR a (.code c:: .inScope c::k)) cs w):=
 step_lone_go (by simp[stepG,stepG.exec,Frame.atR])
theorem aC6 :step P (lone (b.atR a (.inScope c::k)) cs w)= .next (lone (b.atR a k) cs w):=
 step_lone_go (by simp[stepG,stepG.exec,Frame.atR])
theorem N2 {F:Fence}{n:Nat}{Q:Exit->Act->World->Prop}(h:c.wpIn F n P (Exit.noGoto Q) a w):(Code.scope c).wpIn F n P Q a w:=by
 intro b k cs q hb hr;have h0:(lone (b.atR a (.code (.scope c)::k)) cs w).fenced P F:=fenced_calm hb hr rfl;obtain⟨e,g,i,hq,f⟩:=h b (.inScope c::k) cs q hb hr;cases e with
 |normal=>exact⟨.normal,g,i,hq,.head h0 G8 (StepsIn.trans f (.one (fenced_calm hb hr rfl) aC6))⟩
 |exit s=>
  have hx:exitTo s (.inScope c::k)=exitTo s k:=by simp[exitTo]
  exact⟨.exit s,g,i,hq,fun k' hk=>.head h0 G8 (f.1 k' (by rw[hx];exact hk)),
   fun p hk=>let⟨j,h1,h2⟩:=f.2 p (by rw[hx];exact hk);⟨j,h1,.head h0 G8 h2⟩⟩
 |goto l=>exact hq.elim
 |ret=>exact⟨_,g,i,hq,.of_steps (.one h0 G8) f⟩
 |panic t=>exact⟨_,g,i,hq,.of_steps (.one h0 G8) f⟩
 |outgrown=>exact⟨_,g,i,hq,.of_steps (.one h0 G8) f⟩
variable {σ:Sg}{hp:Hp}
theorem HR.less (h:HR B w0 σ hp w){m:T Blk}(hm:∀i b,m.get i=some b->hp.m.get i=some b):HR B w0 σ ⟨m,hp.nx⟩ w:=
 ⟨h.os,h.tape,h.output,h.size,h.old,h.kept,h.fresh,fun i b f=>h.live i b (hm _ _ f),
  fun i j b b' p q hi hj=>h.inj i j b b' p q (hm _ _ hi) (hm _ _ hj)⟩
theorem HR.drop (h:HR B w0 σ hp w)(l:Nat):HR B w0 σ {hp with m:=hp.m.set l none} w:=by
 refine h.less fun i b f=>?_
 have f:(hp.m.set l none).get i=some b:=f;rw[T.get_set]at f
 grind
variable {tm tm':T Value}{ds ds':List Df}{e:Exit}{hp':Hp}{nt:Nat}
theorem am1 (    C : B5 P call) {g l : Nat} {xs : List Value}        (h : aB3 (call.run g xs hp) l tm ds = some (.mk e tm' hp' ds'))
   {p:Pl} (hl:σ l=some p) {ys:List Value} (O:VRL σ xs ys) (Q:HR B w0 σ hp w) (ht:TR σ nt tm a.tmps) (hd:DsR σ ds a.defers) (r:Option Nat) (k:Nat):
  CallsIn (RF r) k P g ys.toArray w (rangePost (RF r) 0 P p.blk (E3 hp.nx B w0 σ nt e tm' hp' ds') a):=by
 unfold aB3 at h;split at h
 ·rename_i v hp1 hx
  have hc:=C.run g xs hp v hp1 hx B w0 σ w ys O Q;refine(show CallsIn (RF r) k P g ys.toArray w _ from(callsIn_wide (n:=k)).2 hc).mono fun e' N he=>?_
  obtain ⟨z,u,rfl,gr,_,G⟩:=he;have K:=gr.le _ _ hl;have    A : ∀ st pend   t    f   y   j   q   s, hp1.m.get l = some (.loop st pend   t    f   y   j   q   s) → st ≠ .busy →
    ∃D,(Instr.endLoop p.blk).run P N= .ok pend D/\HR B w0 z {hp1 with m:=hp1.m.set l none} D:=by
   intro st pend t f y j q s E M;obtain⟨p',o,q1,q2,W,X⟩:=G.live l _ E;have:p'=p:=bC7 (q1.symm.trans K);subst this;obtain⟨H,rfl,k1,k2,k3,R,S,U,V⟩:=X;refine⟨N.putObj p'.blk (.loop {H with state:= .exhausted}),?_,?_⟩
   ·rw[run_endLoop W (by rw[k1];exact M),k2]
   ·have hs:=HR.setO (b':= .loop .exhausted pend t f y j q s) G E q1 (o:= .loop {H with state:= .exhausted}) ⟨_,rfl,rfl,k2,k3,R,S,U,V⟩
    have L:=HR.drop hs l;refine L.less fun i b hi=>?_
    have hi:(hp1.m.set l none).get i=some b:=hi;show((hp1.m.set l (some _)).set l none).get i=some b;rw[T.get_set]at hi⊢
    by_cases F:i=l
    ·grind
    ·rw[bC1 F]at hi⊢
     rw[T.get_set,bC1 F];exact hi
  split at h
  ·rename_i pend t f y j q s E
   obtain⟨D,I,J⟩:=A _ _ _ _ _ _ _ _ E (by simp)
   split at h
   ·simp only[bA1,XR.mk.injEq]at h
    obtain⟨rfl,rfl,rfl,rfl⟩:=h;exact⟨_,D,I,rfl,z,gr,hd.mono gr.le,ht.mono gr.le,J⟩
   ·cases h
  ·rename_i pend t f y j q s E
   obtain⟨D,I,J⟩:=A _ _ _ _ _ _ _ _ E (by simp)
   split at h
   ·simp only[bA1,XR.mk.injEq]at h
    obtain⟨rfl,rfl,rfl,rfl⟩:=h;exact⟨_,D,I,wpIn_ret ⟨rfl,z,gr,hd.mono gr.le,ht.mono gr.le,J⟩⟩
   ·simp only[bA1,XR.mk.injEq]at h
    obtain⟨rfl,rfl,rfl,rfl⟩:=h;exact⟨_,D,I,wpIn_exit ⟨rfl,z,gr,hd.mono gr.le,ht.mono gr.le,J⟩⟩
   ·cases h
  ·cases h
 ·cases h
variable {ar r:Option Nat}
theorem ap3 (    A : B5 P call)   {f : Operand} {ps : Array Tmp} {assign body : Code}       
  (h:X0 P call nt ar f ps assign body tm hp ds=some (.mk e tm' hp' ds')) (ht:TR σ nt tm a.tmps) (G:HR B w0 σ hp w) (hd:DsR σ ds a.defers) (F:ArR σ ar r):
  (Code.rangeFunc f ps assign body).wpIn (RF r) 0 P (E3 hp.nx B w0 σ nt e tm' hp' ds') a w:=by
 unfold X0 at h;split at h
 ·rename_i g first t hf
  have H:=U1 ht hf;generalize J:a.eval f=fe at H;cases H with
  |func _ _ ys _ cs q1 q2 q3 q4=>
  have U:VRL σ first.toList ys.toList:=⟨by simpa using q1,fun i x y h1 h2=>q2 i x y (by simpa using h1) (by simpa using h2)⟩
  have vc:VRL σ t.toList cs.toList:=⟨by simpa using q3,fun i x y h1 h2=>q4 i x y (by simpa using h1) (by simpa using h2)⟩
  split at h
  ·rename_i fn K
   cases L:O7 fn with
   |false=>rw[L]at h;cases h
   |true=>
    rw[L,bB8]at h;have E:∀l w,(resolve a.eval (rangeCall f l) 0).run P w= .ok {target:= .fn (.func g) cs,args:=ys++ #[Value.func (.yield l) #[] #[]]} w:=by
     intro l w;simp only[resolve,J,Deferred.ofValue,List.map_toArray,bF2,List.map_nil];rfl
    have D:∀l w,(invoke (.fn (.func g) cs) (ys++ #[Value.func (.yield l) #[] #[]])).run P w= .ok (.enter g (ys.toList++ [Value.func (.yield l) #[] #[]]++cs.toList).toArray) w:=by
     intro l w;have:(ys.toList++ [Value.func (.yield l) #[] #[]]++cs.toList).toArray=ys++ #[Value.func (.yield l) #[] #[]]++cs:=by apply bH9;simp
     rw[this];exact V7 K L w
    split at h
    ·cases r with
     |some b=>exact F.elim
     |none=>
      refine wpIn_rangeFunc fun z _=>?_
      let C:Pl:=⟨w.heap.size,0,0,0⟩
      let p1:Pl:=⟨w.heap.size+1,0,0,0⟩
      have n0:σ hp.nx=none:=G.fresh _ (bC4 _);have S:(σ.ext hp.nx C) (hp.nx+1)=none:=by rw[Sg.ext_other _ _ _ (by omega)];exact G.fresh _ (by omega)
      have h1:=G.allocO hp.nx (hp.nx+1) n0 (bH4 _) (bG1 _) .dfr (.deferred (some [])) C rfl rfl;have u:Sg.gr hp.nx (hp.nx+1) σ (σ.ext hp.nx C):=⟨Sg.le_ext C n0,fun i hi=>Sg.ext_other _ _ _ (by omega),bH4 _⟩
      have R:Sg.gr (hp.nx+1) (hp.nx+2) (σ.ext hp.nx C) ((σ.ext hp.nx C).ext (hp.nx+1) p1):=⟨Sg.le_ext p1 S,fun i hi=>Sg.ext_other _ _ _ (by omega),bH4 _⟩
      have n:=Sg.gr_trans u R;have e0:((σ.ext hp.nx C).ext (hp.nx+1) p1) hp.nx=some C:=R.le _ _ (Sg.ext_same _ _ _);have h2:=h1.allocO (hp.nx+1) (hp.nx+2) S (bH4 _) (bG1 _) (.loop .ready none nt tm ps assign body hp.nx)
       (.loop {state:= .ready,pending:=none,fn:=z,tmps:=a.tmps,params:=ps,assign,body,defers:=w.heap.size}) p1 (by simp[p1])
       ⟨_,rfl,rfl,rfl,rfl,rfl,rfl,⟨ht.size,fun k=>(ht.at_ k).mono n.le⟩,C,e0,rfl⟩
      refine⟨_,_,_,_,_,_,_,_,run_enterLoop_outer z a.tmps ps assign body,E _ _,fun _ _=>trivial,D _ _,fun h=>(by cases h),?_⟩
      have hs:=am1 (B:=B) (w0:=w0) A h (p:=p1) (Sg.ext_same _ _ _) ((U.mono n.le).append (VRL.cons (.yield (hp.nx+1) p1 (Sg.ext_same _ _ _)) (VRL.nil _))|>.append (vc.mono n.le)) h2
       (a:= {a with defers:=[{target:= .collected w.heap.size,args:= #[]}]++a.defers}) (ht.mono n.le) ⟨⟨C,e0,rfl⟩,hd.mono n.le⟩ none (0-1)
      refine hs.mono fun e' w' he=>?_
      cases e' with
      |returned v=>
       obtain⟨s,O,k1,k2⟩:=he;refine⟨s,O,k1,?_⟩;cases s with
       |none=>exact E3.le n k2
       |some c=>exact bJ6 k2 fun e a w hq=>E3.le n hq
      |panicked chain=>exact E3.le n he
      |outgrown=>obtain⟨a0,Q,hq⟩:=he;exact⟨a0,Q,E3.le n hq⟩
    ·rename_i j
     cases r with
     |none=>exact F.elim
     |some b=>
      obtain⟨pj,hj,rfl⟩:=F;split at h
      ·rename_i ac M aa T ab V W db X
       obtain⟨I,o,u1,u2,u3,u4⟩:=G.live j _ X;have:I=pj:=bC7 (u1.symm.trans hj);subst this;obtain⟨N,rfl,k1,k2,k3,k4,k5,k6,q,Y,Z⟩:=u4;refine wpIn_rangeFunc fun z _=>?_
       let p1:Pl:=⟨w.heap.size,0,0,0⟩
       have n0:σ hp.nx=none:=G.fresh _ (bC4 _);have u:Sg.gr hp.nx (hp.nx+1) σ (σ.ext hp.nx p1):=⟨Sg.le_ext p1 n0,fun i hi=>Sg.ext_other _ _ _ (by omega),bH4 _⟩
       have h2:=G.allocO hp.nx (hp.nx+1) n0 (bH4 _) (bG1 _) (.loop .ready none nt tm ps assign body db)
        (.loop {state:= .ready,pending:=none,fn:=z,tmps:=a.tmps,params:=ps,assign,body,defers:=N.defers}) p1 rfl
        ⟨_,rfl,rfl,rfl,rfl,rfl,rfl,⟨ht.size,fun k=>(ht.at_ k).mono u.le⟩,q,u.le _ _ Y,Z⟩
       refine⟨_,_,_,_,_,_,_,_,run_enterLoop_inner u3 z a.tmps ps assign body,E _ _,fun _ _=>trivial,D _ _,fun h=>(by cases h),?_⟩
       have hs:=am1 (B:=B) (w0:=w0) A h (p:=p1) (Sg.ext_same _ _ _) ((U.mono u.le).append (VRL.cons (.yield hp.nx p1 (Sg.ext_same _ _ _)) (VRL.nil _))|>.append (vc.mono u.le)) h2
        (a:= {a with defers:=[]++a.defers}) (ht.mono u.le) (hd.mono u.le) (some I.blk) (0-1)
       refine hs.mono fun e' w' he=>?_
       cases e' with
       |returned v=>
        obtain⟨s,O,k1,k2⟩:=he;refine⟨s,O,k1,?_⟩;cases s with
        |none=>exact E3.le u k2
        |some c=>exact bJ6 k2 fun e a w hq=>E3.le u hq
       |panicked chain=>exact E3.le u he
       |outgrown=>obtain⟨a0,Q,hq⟩:=he;exact⟨a0,Q,E3.le u hq⟩
      ·cases h
  ·cases h
 ·cases h
theorem aL1    {c : Call} {d : Df} (h : aZ3 tm c = some d)  (ht : TR σ nt tm a.tmps) (ty : TypeId) (w : World) :
  ∃u,(resolve a.eval c ty).run P w= .ok u w/\DfR σ d u:=by
 obtain⟨n,j,t⟩:=c;unfold aZ3 at h;cases n with
 |builtin b=>cases h
 |invoke r m=>cases h
 |value f=>
  simp only at h;split at h
  ·rename_i g first l hf
   have q:=U1 ht hf;generalize s:a.eval f=F at q;cases q with
   |func _ _ ys _ cs q1 q2 A C=>
   split at h
   ·rename_i args p
    cases h;have E:VRL σ first.toList ys.toList:=⟨by simpa using q1,fun i x y h1 h2=>q2 i x y (by simpa using h1) (by simpa using h2)⟩
    have vc:VRL σ l.toList cs.toList:=⟨by simpa using A,fun i x y h1 h2=>C i x y (by simpa using h1) (by simpa using h2)⟩
    have D:=al5 (fun y _ v z=>U1 ht z) p
    refine⟨{target:= .fn (.func g) cs,args:=ys++j.map a.eval},?_,cs,rfl,?_,vc⟩
    ·simp only[resolve,s,Deferred.ofValue]
     rfl
    ·have:(ys++j.map a.eval).toList=ys.toList++j.toList.map a.eval:=by simp
     rw[this];exact E.append D
   ·cases h
  ·cases h
theorem aT1 (    g : B5 P call)  (ops : Array Oper) : ∀ (l : List Oper) (k : Nat) (tm : T Value) (hp : Hp) (ds : List Df) (tm' : T Value) (hp' : Hp) (ds' : List Df) (σ : Sg) (a : Act) (w : World),
  (∀j,l[j]? =ops[k+j]?)->Q5 P call nt ops.toList l tm hp ds=some (tm',hp',ds')->TR σ nt tm a.tmps->HR B w0 σ hp w->DsR σ ds a.defers->
  wpOpsIn (RF none) 0 P ops (E3 hp.nx B w0 σ nt .normal tm' hp' ds') (List.range' k l.length) a w:=by
 intro l
 induction l with
 |nil=>
  intro k tm hp ds tm' hp' ds' σ a w _ h ht q hd;simp only[Q5,bA1,bA3]at h;obtain⟨rfl,rfl,rfl⟩:=h;exact⟨rfl,σ,Sg.gr_refl _ σ,hd,ht,q⟩
 |cons o l z=>
  intro k tm hp ds tm' hp' ds' σ a w hl h ht q hd;have D:ops[k]? =some o:=by simpa using(hl 0).symm
  have i:∀j,l[j]? =ops[k+1+j]? :=fun j=>by have:=hl (j+1);simpa [bG0,Nat.add_comm 1 j]using this
  simp only[Q5]at h;simp only[bE4,List.range'_succ,wpOpsIn,D];cases f:l5 nt o.dst with
  |false=>grind
  |true=>
   rw[f,bB8]at h;rw[aB6 ht ops o];cases s:f8 ops.toList tm o with
   |true=>
    rw[s,bB8]at h;rw[bC3 rfl];split at h
    ·rename_i c hc
     split at h
     ·rename_i d t
      obtain⟨C,h1,h2⟩:=aL1 (P:=P) t ht o.type w;have E:o.op= .defer c:=by
       unfold aH7 at hc
       grind
      refine⟨fun _ _=>trivial,?_⟩
      have p:(o.semAt (RF none).round a.eval).run P w= .ok (.defer C) w:=by
       show(o.semAt none a.eval).run P w=_;rw[Oper.semAt_none];unfold execOp
       simp_all
      rw[p,Oper.uponIn_defer];exact z (k+1) _ hp (d::ds) tm' hp' ds' σ _ w i h (TR.putO (a:= {a with defers:=C::a.defers}) ht f (VR.undef σ)) q (by rw[J8];exact⟨h2,hd⟩)
     ·cases h
    ·split at h
     ·rename_i v hp1 hx
      refine U3 g hx (ht.ER _) q _ _ (fun σ' u w' n F y=>?_) none
      have A:=z (k+1) _ hp1 ds tm' hp' ds' σ' (a.put o.dst u) w' i h ((ht.mono n.le).putO f F) y (by rw[J8];exact hd.mono n.le)
      exact K9 (fun e a' w' hq=>E3.le n hq) _ A
     ·cases h
   |false=>
    rw[s,bB9]at h;rw[bC1 (by simp)]
    exact⟨fun _ _=>trivial,z (k+1) _ hp ds tm' hp' ds' σ _ w i h (ht.putO f (VR.undef σ)) q (by rw[J8];exact hd)⟩
theorem ar7 (    f : B5 P call)   {ops : Array Oper} {draw : Bool} { n : Nat}       
  (h:aT4 P call nt ar ops.toList draw tm hp ds=some (.mk e tm' hp' ds')) (ht:TR σ nt tm a.tmps) (l:HR B w0 σ hp w) (hd:DsR σ ds a.defers) (g:ArR σ ar r):
  (Code.region n ops draw).wpIn (RF r) 0 P (E3 hp.nx B w0 σ nt e tm' hp' ds') a w:=by
 cases ar with
 |some j=>cases h
 |none=>
  cases r with
  |some b=>exact g.elim
  |none=>
   cases draw with
   |true=>cases h
   |false=>
    simp only[aT4,bB9]at h;split at h
    ·rename_i tm1 hp1 i hx
     cases h;refine wpIn_region ?_;have:=aT1 (B:=B) (w0:=w0) f ops ops.toList 0 tm hp ds _ _ _ σ a w (by simp) hx ht l hd
     rw[List.range_eq_range']
     grind
    ·cases h
theorem M2 (    t : B5 P call) (  J : U7 P dr)   : ∀ (m : Nat),
  (∀(c:Code) (tm:T Value) (hp:Hp) (ds:List Df) (e:Exit) (tm':T Value) (hp':Hp) (ds':List Df) (σ:Sg) (a:Act) (w:World) (r:Option Nat),d7 P dr call nt ar m c tm hp ds=some (.mk e tm' hp' ds')->TR σ nt tm a.tmps->HR B w0 σ hp w->DsR σ ds a.defers->ArR σ ar r->
   c.wpIn (RF r) 0 P (E3 hp.nx B w0 σ nt e tm' hp' ds') a w)/\
  (∀(c:Code) (tm:T Value) (hp:Hp) (ds:List Df) (e:Exit) (tm':T Value) (hp':Hp) (ds':List Df) (σ:Sg) (a:Act) (w:World) (r:Option Nat),d7 P dr call nt ar m (.loop c) tm hp ds=some (.mk e tm' hp' ds')->TR σ nt tm a.tmps->HR B w0 σ hp w->DsR σ ds a.defers->ArR σ ar r->
   Code.roundsIn (RF r) 0 P c (E3 hp.nx B w0 σ nt e tm' hp' ds') m a w):=by
 intro m
 induction m with
 |zero=>exact⟨fun c tm hp ds e tm' hp' ds' σ a w r h=>(by simp[d7]at h),fun c tm hp ds e tm' hp' ds' σ a w r h=>(by simp[d7]at h)⟩
 | succ m  M =>
  obtain ⟨A,K⟩:=M;have     D : ∀ (c : Code) (tm : T Value) (hp : Hp) (ds : List Df) (e : Exit) (tm' : T Value) (hp' : Hp) (ds' : List Df) (σ : Sg) (a : Act) (w : World) (r : Option Nat), d7 P dr call nt ar (m + 1) (.loop c) tm hp ds = some (.mk e tm' hp' ds') → TR σ nt tm a.tmps → HR B w0 σ hp w → DsR σ ds a.defers → ArR σ ar r →
    Code.roundsIn (RF r) 0 P c (E3 hp.nx B w0 σ nt e tm' hp' ds') (m+1) a w:=by
   intro c tm hp ds e tm' hp' ds' σ a w r h ht z hd q;simp only[d7]at h;rw[roundsIn_succ];cases hb:d7 P dr call nt ar m c tm hp ds with
   |none=>grind
   |some H=>
    obtain⟨F,tm1,hp1,u⟩:=H;refine bJ6 (A c tm hp ds F tm1 hp1 u σ a w r hb ht z hd q) fun e' a' w' hq=>?_
    obtain⟨rfl,σ',g,i,n,p⟩:=hq;cases e' with
    |normal=>
     simp only[hb]at h;exact R2 (fun e a w hq=>E3.le g hq) (K c tm1 hp1 u e tm' hp' ds' σ' a' w' r h n p i (q.mono g.le))
    |exit E=>simp only[hb,bA1,XR.mk.injEq]at h;obtain⟨rfl,rfl,rfl,rfl⟩:=h;exact⟨rfl,σ',g,i,n,p⟩
    |goto E=>simp only[hb,bA1,XR.mk.injEq]at h;obtain⟨rfl,rfl,rfl,rfl⟩:=h;exact⟨rfl,σ',g,i,n,p⟩
    |ret=>simp only[hb,bA1,XR.mk.injEq]at h;obtain⟨rfl,rfl,rfl,rfl⟩:=h;exact⟨rfl,σ',g,i,n,p⟩
    |panic I=>simp only[hb,bA1,XR.mk.injEq]at h;obtain⟨rfl,rfl,rfl,rfl⟩:=h;exact⟨rfl,σ',g,i,n,p⟩
    |outgrown=>simp only[hb,bA1,XR.mk.injEq]at h;obtain⟨rfl,rfl,rfl,rfl⟩:=h;exact⟨rfl,σ',g,i,n,p⟩
  refine⟨?_,D⟩;intro c tm hp ds e tm' hp' ds' σ a w r h ht z hd q;cases c with
  |skip=>
   simp only[d7,bA1,XR.mk.injEq]at h;obtain⟨rfl,rfl,rfl,rfl⟩:=h;exact wpIn_skip ⟨rfl,σ,Sg.gr_refl _ σ,hd,ht,z⟩
  |label l=>
   simp only[d7,bA1,XR.mk.injEq]at h;obtain⟨rfl,rfl,rfl,rfl⟩:=h;exact wpIn_label ⟨rfl,σ,Sg.gr_refl _ σ,hd,ht,z⟩
  |exit E=>
   simp only[d7,bA1,XR.mk.injEq]at h;obtain⟨rfl,rfl,rfl,rfl⟩:=h;exact wpIn_exit ⟨rfl,σ,Sg.gr_refl _ σ,hd,ht,z⟩
  |ret=>
   simp only[d7,bA1,XR.mk.injEq]at h;obtain⟨rfl,rfl,rfl,rfl⟩:=h;exact wpIn_ret ⟨rfl,σ,Sg.gr_refl _ σ,hd,ht,z⟩
  |region E ops draw=>
   simp only[d7]at h;cases draw with
   |true=>
    simp only[bB8]at h;split at h
    ·rename_i tm1 hp1 hr
     cases h;exact bJ6 (J call t nt ops E tm hp _ _ hr B w0 σ a w ht z r) fun e' a' w' hq=>by
      obtain⟨h1,h2,σ',h3,h4,h5⟩:=hq;exact⟨h1,σ',h3,by rw[h2];exact hd.mono h3.le,h4,h5⟩
    ·exact ar7 t h ht z hd q
   |false=>
    simp only[bB9]at h;split at h
    ·rename_i tm1 hp1 hr
     simp only[bA1,XR.mk.injEq]at h;obtain⟨rfl,rfl,rfl,rfl⟩:=h;refine bJ6 (Q:=Y6 hp.nx B w0 σ nt .normal tm1 hp1 a.defers) (wpIn_region ?_) fun e' a' w' hq=>by
      obtain⟨h1,h2,σ',h3,h4,h5⟩:=hq;exact⟨h1,σ',h3,by rw[h2];exact hd.mono h3.le,h4,h5⟩
     have:=aZ7 (B:=B) (w0:=w0) t ops r ops.toList 0 tm hp _ _ σ a w (by simp) hr ht z a.defers rfl
     rw[List.range_eq_range']
     grind
    ·exact ar7 t h ht z hd q
  |seq x y=>
   simp only[d7]at h;cases hb:d7 P dr call nt ar m x tm hp ds with
   |none=>grind
   |some H=>
    obtain⟨F,tm1,hp1,u⟩:=H;refine wpIn_seq (bJ6 (A x tm hp ds F tm1 hp1 u σ a w r hb ht z hd q) fun e' a' w' hq=>?_)
    obtain⟨rfl,σ',g,i,n,p⟩:=hq;cases e' with
    |normal=>
     simp only[hb]at h;exact bJ6 (A y tm1 hp1 u e tm' hp' ds' σ' a' w' r h n p i (q.mono g.le)) (fun e a w hq=>E3.le g hq)
    |exit E=>simp only[hb,bA1,XR.mk.injEq]at h;obtain⟨rfl,rfl,rfl,rfl⟩:=h;exact⟨rfl,σ',g,i,n,p⟩
    |goto E=>simp only[hb,bA1,XR.mk.injEq]at h;obtain⟨rfl,rfl,rfl,rfl⟩:=h;exact⟨rfl,σ',g,i,n,p⟩
    |ret=>simp only[hb,bA1,XR.mk.injEq]at h;obtain⟨rfl,rfl,rfl,rfl⟩:=h;exact⟨rfl,σ',g,i,n,p⟩
    |panic I=>simp only[hb,bA1,XR.mk.injEq]at h;obtain⟨rfl,rfl,rfl,rfl⟩:=h;exact⟨rfl,σ',g,i,n,p⟩
    |outgrown=>simp only[hb,bA1,XR.mk.injEq]at h;obtain⟨rfl,rfl,rfl,rfl⟩:=h;exact⟨rfl,σ',g,i,n,p⟩
  |cond c x y=>
   simp only[d7]at h;split at h
   ·rename_i hc
    have C:=U1 ht hc;generalize G:a.eval c=L at C;cases C;exact wpIn_cond_true G (A x tm hp ds e tm' hp' ds' σ a w r h ht z hd q)
   ·rename_i hc
    have C:=U1 ht hc;generalize G:a.eval c=L at C;cases C;exact wpIn_cond_false G (A y tm hp ds e tm' hp' ds' σ a w r h ht z hd q)
   ·cases h
  |block E b=>
   simp only[d7]at h;cases hb:d7 P dr call nt ar m b tm hp ds with
   |none=>grind
   |some H=>
    obtain⟨F,tm1,hp1,u⟩:=H;refine wpIn_block (bJ6 (A b tm hp ds F tm1 hp1 u σ a w r hb ht z hd q) fun e' a' w' hq=>?_)
    obtain⟨rfl,σ',g,i,n,p⟩:=hq;cases e' with
    |normal=>simp only[hb,bA1,XR.mk.injEq]at h;obtain⟨rfl,rfl,rfl,rfl⟩:=h;exact⟨rfl,σ',g,i,n,p⟩
    |exit j=>
     simp only[hb]at h
     by_cases hj:j=E
     ·subst hj
      rw[l8 rfl,bB8]at h;cases h;simp only[Exit.inBlock,bI6];exact⟨rfl,σ',g,i,n,p⟩
     ·rw[n8 hj,bB9]at h
      cases h;simp only[Exit.inBlock,hj,if_false];exact⟨rfl,σ',g,i,n,p⟩
    |goto E=>simp only[hb,bA1,XR.mk.injEq]at h;obtain⟨rfl,rfl,rfl,rfl⟩:=h;exact⟨rfl,σ',g,i,n,p⟩
    |ret=>simp only[hb,bA1,XR.mk.injEq]at h;obtain⟨rfl,rfl,rfl,rfl⟩:=h;exact⟨rfl,σ',g,i,n,p⟩
    |panic I=>simp only[hb,bA1,XR.mk.injEq]at h;obtain⟨rfl,rfl,rfl,rfl⟩:=h;exact⟨rfl,σ',g,i,n,p⟩
    |outgrown=>simp only[hb,bA1,XR.mk.injEq]at h;obtain⟨rfl,rfl,rfl,rfl⟩:=h;exact⟨rfl,σ',g,i,n,p⟩
  |loop b=>exact wpIn_loop_rounds (m+1) (D b tm hp ds e tm' hp' ds' σ a w r h ht z hd q)
  |rangeFunc f ps x y=>exact ap3 t (by simpa only[d7]using h) ht z hd q
  |scope b=>
   simp only[d7]at h;cases hb:d7 P dr call nt ar m b tm hp ds with
   |none=>grind
   |some H=>
    obtain⟨F,tm1,hp1,u⟩:=H;refine N2 (bJ6 (A b tm hp ds F tm1 hp1 u σ a w r hb ht z hd q) fun e' a' w' hq=>?_)
    obtain⟨rfl,σ',g,i,n,p⟩:=hq;cases e' with
    |normal=>simp only[hb,bA1,XR.mk.injEq]at h;obtain⟨rfl,rfl,rfl,rfl⟩:=h;exact⟨rfl,σ',g,i,n,p⟩
    |exit E=>simp only[hb,bA1,XR.mk.injEq]at h;obtain⟨rfl,rfl,rfl,rfl⟩:=h;exact⟨rfl,σ',g,i,n,p⟩
    |goto E=>grind
    |ret=>simp only[hb,bA1,XR.mk.injEq]at h;obtain⟨rfl,rfl,rfl,rfl⟩:=h;exact⟨rfl,σ',g,i,n,p⟩
    |panic I=>grind
    |outgrown=>grind
  |goto l=>simp only[d7,reduceCtorEq]at h
  |refuse s=>simp only[d7,reduceCtorEq]at h
end
def Q6 (P:Program)(tm:T Value)(hp:Hp):ResultVar->Option Value
 | .tmp t=>some ((tm.get t).getD undef)
 | .cell a t=>A8 P hp t ((tm.get a).getD undef)
def t9 (P:Program)(tm:T Value)(hp:Hp):List ResultVar->Option (List Value)
 | []=>some []
 |r::rs=>match Q6 P tm hp r with
  |some v=>match t9 P tm hp rs with
   |some vs=>some (v::vs)
   |none=>none
  |none=>none
def U4 :List Value->Value
 | [v]=>v
 |vs=>.tuple vs.toArray
section
variable {P :Program}{B:BS}{w0:World}
theorem bj4 {σ : Sg} {hp : Hp} {w : World} {t : TypeId} {a a' v : Value} (h : A8 P hp t a = some v) ( f : VR σ a a') ( g : HR B w0 σ hp w) :
  ∃u,VR σ v u/\(do loadVar t (<-asAddr a'):Sem Value).run P w= .ok u w:=by
 obtain⟨u,h1,h2⟩:=ar6 h f g;refine⟨u,h1,?_⟩;rw[<-h2];cases f<;>first|rfl| (simp[A8]at h)
def aF9 (tmps:Array Value):ResultVar->Sem Value
 | .tmp t=>pure (tmps.getD t undef)
 | .cell a t=>do loadVar t (<-asAddr (tmps.getD a undef))
theorem I9 {σ : Sg} {hp : Hp} {w : World} {nt : Nat} {tm : T Value} {tmps : Array Value} (ht : TR σ nt tm tmps) ( i : HR B w0 σ hp w) :
  ∀ {g:List ResultVar} {vs:List Value},t9 P tm hp g=some vs->
  ∃us,VRL σ vs us/\(g.mapM (aF9 tmps):Sem (List Value)).run P w= .ok us w
 | [],vs,h=>by simp only[t9,bA1]at h;subst h;exact⟨[],VRL.nil σ,by simp⟩
 |r::g,vs,h=>by
  simp only[t9]at h;cases hr:Q6 P tm hp r with
  |none=>grind
  |some v=>
   cases f:t9 P tm hp g with
   |none=>grind
   |some l=>
    simp only[hr,f,bA1]at h;subst h;obtain⟨us,h1,h2⟩:=I9 ht i f;cases r with
    |tmp t=>
     simp only[Q6,bA1]at hr;subst hr;refine⟨_::us,VRL.cons (ht.at_ t) h1,?_⟩;rw[List.mapM_cons];simp only[aF9,bD0,bD5,bC6,h2]
    |cell a t=>
     simp only[Q6]at hr;obtain⟨u,h3,h4⟩:=bj4 hr (ht.at_ a) i;refine⟨u::us,VRL.cons h3 h1,?_⟩;rw[List.mapM_cons,bD0];have j:(aF9 tmps (.cell a t)).run P w= .ok u w:=h4
     simp_all
theorem TR.start {σ : Sg} {args args' : List Value} (h : VRL σ args args') (n : Nat) :
  TR σ (args.length+(n-args.length)) (fill .e 0 args) (args'.toArray++Array.replicate (n-args'.toArray.size) undef):=by
 have hl:=h.1;refine⟨by simp[hl],fun k=>?_⟩
 rw[j3]
 by_cases hk:k<args.length
 ·rw[bC3 (by omega)]
  have f:k<args'.length:=by omega
  have i:args[k-0]? =some args[k]:=by simp[hk]
  have g:(args'.toArray++Array.replicate (n-args'.toArray.size) undef).getD k undef=args'[k]:=by
   simp[Array.getElem?_append,f]
  rw[i,g];exact h.2 k _ _ (by simp[hk]) (by simp[f])
 ·rw[bC1 (by omega)]
  have g:(args'.toArray++Array.replicate (n-args'.toArray.size) undef).getD k undef=undef:=by
   have f:¬k<args'.length:=by omega
   simp only[Array.getD_eq_getD_getElem?,Array.getElem?_append,List.size_toArray,f,if_false,Array.getElem?_replicate]
   grind
  rw[g];rw[T.get_e];exact VR.undef σ
end
end Go.Xe
end PartXm11
noncomputable section PartXm12
namespace Go.Xe
open Go.RowKit
def c6 :Op->Nat
 | .move _| .assign _| .pick _ _ _| .build _ _| .nilCheck _| .binOp _ _ _ _ _| .unOp _ _ _| .convert _ _ _| .makeInterface _ _| .makeFunc _ _ _
 | .fieldAddr _ _ _| .field _ _ _| .indexAddr _ _ _| .index _ _ _| .extract _ _=>0
 | .load _ _| .slice _ _ _ _ _| .lookup _ _ _ _| .call ⟨.builtin .len,_,_⟩=>1
 | .alloc _| .box _ _| .buildSlice _ _ _| .makeSlice _ _ _| .makeMap _ _| .range _ _=>2
 | .call ⟨.builtin .cap,_,_⟩| .call ⟨.builtin .min,_,_⟩| .call ⟨.builtin .max,_,_⟩=>0
 |_=>3
variable {P:Program}{call:c8}{tm:T Value}
theorem aB2 {o:Op}(h:c6 o=0):∃r:Option Value,∀hp,xop P call tm hp o=d8 hp r:=by
 cases o with
 |move x=>exact⟨_,fun _=>rfl⟩
 |assign x=>exact⟨_,fun _=>rfl⟩
 |pick c a b=>
  simp only[a9,d9];split
  ·rename_i t _
   cases t<;>exact⟨_,fun _=>rfl⟩
  ·exact⟨none,fun _=>rfl⟩
 |build t ps=>simp only[a9,d9];split<;>first|exact⟨_,fun _=>rfl⟩|exact⟨none,fun _=>rfl⟩
 |nilCheck x=>
  simp only[a9,d9];split
  ·exact⟨some _,fun _=>rfl⟩
  ·exact⟨some _,fun _=>rfl⟩
  ·exact⟨none,fun _=>rfl⟩
 |binOp op t x y n=>
  simp only[a9,d9];split
  ·split<;>first|exact⟨_,fun _=>rfl⟩|exact⟨none,fun _=>rfl⟩
  ·exact⟨none,fun _=>rfl⟩
 |unOp op t x=>simp only[a9,d9];split<;>first|exact⟨_,fun _=>rfl⟩|exact⟨none,fun _=>rfl⟩
 |convert s d x=>simp only[a9,d9];split<;>first|exact⟨_,fun _=>rfl⟩|exact⟨none,fun _=>rfl⟩
 |makeInterface t x=>simp only[a9,d9];split<;>first|exact⟨_,fun _=>rfl⟩|exact⟨none,fun _=>rfl⟩
 |makeFunc f a b=>
  simp only[a9,d9];split
  ·split<;>first|exact⟨some _,fun _=>rfl⟩|exact⟨none,fun _=>rfl⟩
  ·exact⟨none,fun _=>rfl⟩
 |fieldAddr t x f=>simp only[a9,d9];split<;>first|exact⟨_,fun _=>rfl⟩|exact⟨none,fun _=>rfl⟩
 |field t x f=>simp only[a9,d9];split<;>first|exact⟨_,fun _=>rfl⟩|exact⟨none,fun _=>rfl⟩
 |indexAddr t x i=>
  simp only[a9,d9];split
  ·split<;>first|exact⟨_,fun _=>rfl⟩|exact⟨none,fun _=>rfl⟩
  ·exact⟨none,fun _=>rfl⟩
 |index t x i=>
  simp only[a9,d9];split
  ·split<;>first|exact⟨_,fun _=>rfl⟩|exact⟨none,fun _=>rfl⟩
  ·exact⟨none,fun _=>rfl⟩
 |extract x i=>simp only[a9,d9];split<;>first|exact⟨_,fun _=>rfl⟩|exact⟨none,fun _=>rfl⟩
 |call c=>
  obtain⟨g,args,ats⟩:=c;cases g with
  |value f=>simp[c6]at h
  |invoke r m=>simp[c6]at h
  |builtin b=>
   simp only[a9,d9];split
   ·rename_i vs _
    generalize ats.toList=j;cases b<;>first
     | (simp[c6]at h;done)
     | (rcases j with _| ⟨t,_| ⟨u,r⟩⟩<;>rcases vs with _| ⟨x,_| ⟨y,l⟩⟩<;>first|exact⟨_,fun _=>rfl⟩|exact⟨none,fun _=>rfl⟩)
   ·exact⟨none,fun _=>rfl⟩
 |_=>simp[c6]at h
def xrd (P:Program)(tm:T Value)(hp:Hp)(o:Op):Option Value:=
 match xop P ⟨fun _ _ _=>none,fun _=>none,fun _ _ _=>none⟩ tm hp o with
 |some (v,hp')=>bif Nat.beq hp'.nx hp.nx then some v else none
 |none=>none
variable {v:Value}
theorem as0 {hp hp':Hp}{t:TypeId}{x:Value}{lo hi mx:Option Value}(h:o9 P hp t x lo hi mx=some (v,hp')):hp'=hp:=by
 have key:∀ {a:Value} {q:Hp},some (a,q)=some (v,hp')->q=hp->hp'=hp:=by
  intro a q g i;simp only[bA1,bA3]at g;rw[<-g.2,i]
 have f:∀ {b:Bool} {x y:Option (Value×Hp)},(bif b then x else y)=some (v,hp')->(x=some (v,hp')->hp'=hp)->(y=some (v,hp')->hp'=hp)->hp'=hp:=by
  intro b x y e h1 h2;cases b
  ·exact h2 e
  ·exact h1 e
 unfold o9 at h;split at h
 ·split at h
  ·split at h
   ·cases h
   ·split at h
    ·exact key h rfl
    ·cases h
  ·cases h
 ·split at h
  ·cases h
  ·split at h
   ·refine f h (fun h=>?_) (fun h=>by cases h)
    split at h
    ·exact key h rfl
    ·cases h
   ·split at h
    ·exact key h rfl
    ·cases h
   ·refine f h (fun h=>?_) (fun h=>?_)
    ·refine f h (fun h=>?_) (fun h=>by cases h)
     split at h
     ·cases h
     ·refine f h (fun h=>key h rfl) (fun h=>key h rfl)
     ·refine f h (fun h=>key h rfl) (fun h=>?_)
      refine f h (fun h=>key h rfl) (fun h=>?_)
      ·split at h
       ·exact f h (fun h=>key h rfl) (fun h=>by cases h)
       ·cases h
    ·refine f h (fun h=>?_) (fun h=>by cases h)
     split at h
     ·cases h
     ·exact f h (fun h=>key h rfl) (fun h=>key h rfl)
   ·cases h
 ·split at h
  ·cases h
  ·split at h
   ·refine f h (fun h=>?_) (fun h=>by cases h)
    split at h
    ·cases h
    ·exact f h (fun h=>key h rfl) (fun h=>key h rfl)
   ·cases h
 ·cases h
theorem bw6    {hp : Hp} {o : Op}  (hk : c6 o = 1) (h : xrd P tm hp o = some v) : xop P call tm hp o = some (v, hp) := by
 unfold xrd at h;split at h
 ·rename_i v' hp' hx
  cases hb:Nat.beq hp'.nx hp.nx with
  |false=>rw[hb]at h;cases h
  | true =>
   rw [hb,bB8,bA1] at h;subst h;have same : hp' = hp := by
    cases o with
    |load t a=>
     simp only[a9,d9]at hx;split at hx
     ·exact(e9 hx).2
     ·cases hx
    |slice t x lo hi mx=>
     simp only[a9,d9]at hx;split at hx
     ·split at hx
      ·split at hx
       ·split at hx
        ·exact as0 hx
        ·cases hx
       ·cases hx
      ·cases hx
     ·cases hx
    |lookup t x k ok=>
     simp only[a9,d9]at hx;split at hx
     ·split at hx
      ·exact(e9 hx).2
      ·cases hx
     ·cases hx
    | call c =>
     obtain⟨f,args,ats⟩:=c;cases f with
     | builtin b =>
      cases b <;> first
       | (simp[c6]at hk;done)
       | (simp only [a9, d9] at hx
          split at hx
          ·generalize ats.toList=g at hx
           rename_i vs _
           rcases g with _| ⟨t,_| ⟨u,r⟩⟩<;>rcases vs with _| ⟨x,_| ⟨y,i⟩⟩<;>simp only[A6,reduceCtorEq]at hx
           exact(e9 hx).2
          ·cases hx)
     |_=>simp[c6]at hk
    |_=>simp[c6]at hk
   rw[same]at hx;cases o with
   |load t a=>exact hx
   |slice t x lo hi mx=>exact hx
   |lookup t x k ok=>exact hx
   |call c=>
    obtain⟨f,args,ats⟩:=c;cases f with
    |builtin b=>exact hx
    |_=>simp[c6]at hk
   |_=>simp[c6]at hk
 ·cases h
section
variable {P :Program}{B:BS}{w0:World}{σ:Sg}{hp:Hp}{w:World}
def rest (B:BS)(σ:Sg)(hp:Hp)(w:World):BS:=⟨fun k=>B.D k\/(k<w.heap.size/\ ∀i b p,hp.m.get i=some b->σ i=some p->p.blk≠k),B.D,fun _ h=>.inl h⟩
theorem bp1 (h:HR B w0 σ hp w){k:Nat}(hk:rest B σ hp w k):k<w.heap.size:=by
 rcases hk with hk|hk
 ·have:=h.old k (B.sub k hk);have:=h.size;omega
 ·exact hk.1
theorem bp0 (_:HR B w0 σ hp w){i:Nat}{b:Blk}{p:Pl}(f:hp.m.get i=some b)(hp1:σ i=some p)(hn:¬B p.blk):¬rest B σ hp w p.blk:=fun hb=>by
 rcases hb with hb|hb
 ·exact hn (B.sub _ hb)
 ·exact hb.2 i b p f hp1 rfl
theorem aQ1 (h:HR B w0 σ hp w){k:Nat}(hk:B k):rest B σ hp w k:=by
 by_cases hd:B.D k
 ·exact .inl hd
 ·refine .inr ⟨by have:=h.old k hk;have:=h.size;omega,fun i b p f hp1 he=>?_⟩
  obtain⟨p',o,h1,h3,_⟩:=h.live i b f;have:p'=p:=bC7 (h1.symm.trans hp1);subst this;cases hr:P4 b with
  |true=>exact hd (he▸h3.yes hr)
  |false=>exact h3.no hr (he▸hk)
theorem HR.max (h:HR B w0 σ hp w):HR (rest B σ hp w) w σ hp w:=by
 refine⟨rfl,rfl,rfl,bC4 _,fun k hk=>bp1 h hk,fun k _=>rfl,h.fresh,?_,h.inj⟩
 intro i b f;obtain⟨p,o,h1,h2,h3,h4⟩:=h.live i b f;exact⟨p,o,h1,h2.to id (bp0 h f h1),h3,h4⟩
theorem HR.back (h:HR B w0 σ hp w){σ':Sg}{hp':Hp}{w':World}(k:HR (rest B σ hp w) w σ' hp' w'):HR B w0 σ' hp' w':=by
 refine⟨k.os.trans h.os,k.tape.trans h.tape,k.output.trans h.output,bF8 h.size k.size,h.old,fun b hb=>(k.kept b (aQ1 h hb)).trans (h.kept b hb),k.fresh,?_,k.inj⟩
 intro i b f;obtain⟨p,o,h1,h3,h4⟩:=k.live i b f;exact⟨p,o,h1,h3.to id (fun hn hb=>hn (aQ1 h hb)),h4⟩
def Ext (B:BS)(σ:Sg)(hp:Hp)(w:World)(id:Nat)(n:Nw)(b:Nat):Prop:=
 ∃p o,σ id=some p/\p.blk=b/\w.heap[b]? =some o/\BR σ p n.blk o/\ ¬B b/\ ∀i b2 q,hp.m.get i=some b2->σ i=some q->q.blk≠b
def Hp.take (hp:Hp)(id:Nat)(n:Nw):Hp:= {hp with m:=hp.m.set id (some n.blk)}
theorem HR.take (h:HR B w0 σ hp w){g b:Nat}{n:Nw}(hx:Ext B σ hp w g n b):HR B w0 σ (hp.take g n) w:=by
 obtain⟨p,o,h1,rfl,h4,z,A,y⟩:=hx;refine⟨h.os,h.tape,h.output,h.size,h.old,h.kept,h.fresh,?_,?_⟩
 ·intro i t f
  simp only[Hp.take,T.get_set]at f
  by_cases hi:i=g
  ·rw[bC3 hi]at f
   simp only[bA1]at f;subst f;subst hi;exact⟨p,o,h1,.of A n.ok,h4,z⟩
  ·rw[bC1 hi]at f
   exact h.live i t f
 ·intro i j C t q r hi hj s hq hr
  simp only[Hp.take,T.get_set]at hi hj
  by_cases u:i=g
  ·have l:j≠g:=by omega
   rw[bC1 l]at hj;subst u;have:q=p:=bC7 (hq.symm.trans h1);subst this;exact Ne.symm (y j _ r hj hr)
  ·rw[bC1 u]at hi
   by_cases l:j=g
   ·subst l
    have:r=p:=bC7 (hr.symm.trans h1);subst this;exact y i _ q hi hq
   ·rw[bC1 l]at hj
    exact h.inj i j _ _ q r hi hj s hq hr
theorem HR.lay (h : HR B w0 σ hp w) { f : Nat} (  j : σ  f = none) (hlt :  f < hp.nx) (n : Nw) {o : Obj} {p : Pl} (  t : p.blk = w.heap.size) ( u : BR σ p n.blk o) :
  HR B w0 (σ.ext f p) hp (w.alloc o)/\Ext B (σ.ext f p) hp (w.alloc o) f n w.heap.size:=by
 have l:=Sg.le_ext (σ:=σ) p j;have y:=h.allocO f hp.nx j (bC4 _) hlt n.blk o p t (u.mono l) n.ok;have s:∀i b,hp.m.get i=some b->i≠f:=by
  intro i b g e;subst e;obtain⟨p,o,h1,_⟩:=h.live _ b g;rw[j]at h1;cases h1
 have hl:=y.less (m:=hp.m) (fun i b g=>by
  show(hp.m.set f _).get i=_;rw[T.get_set,bC1 (s i b g)];exact g)
 refine⟨by simpa using hl,p,o,Sg.ext_same _ _ _,t,?_,u.mono l,?_,?_⟩
 ·show(w.heap.push _)[w.heap.size]? =_;simp
 ·intro hb
  have h1:=h.old _ hb;have h2:=h.size;omega
 ·intro i b q g hq
  rw[Sg.ext_other _ _ _ (s i b g)]at hq;obtain⟨p',o',h1,_,h4,_⟩:=h.live i b g;have:p'=q:=bC7 (h1.symm.trans hq);subst this;have:=(bB6.1 h4).1;omega
end
end Go.Xe
end PartXm12
