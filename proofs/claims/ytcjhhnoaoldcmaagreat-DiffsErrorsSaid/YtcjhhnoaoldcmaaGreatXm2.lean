/- The executor, parts 8, 9, M, C, 10, 11, 12.
  Conditions: none. -/
import Derived.Test.YtcjhhnoaoldcmaaGreatXm1
import Derived.Lib.AppendZerosOnto
import Derived.Lib.Overlaps
import Derived.RangeFuncRecord
import Derived.LoopNIn
import Derived.Scope
import Derived.RangeFuncNested
set_option linter.unusedSimpArgs false
set_option linter.unusedVariables false
noncomputable section PartXm8
namespace Go.Xe
open Go.RowKit
section
variable {P :Program}{B:BS}{w0:World}{σ:Sg}{hp:Hp}{w:World}
def v7 (hp : Hp) (size : Nat) (x : Value) : Option (Nat × List Value) :=
 match x with
 | .slice none n _=>bif Nat.beq n 0 then some (0,[])else none
 | .slice (some ⟨i, o, none⟩) n _ => match hp.m.get i with
  | some b => match rdC b with
   | some (c, k, _) => bif Nat.ble (o + n * size) k then
     match n9 c o (n*size)with
     |some vs=>some (n,vs)
     |none=>none
    else none
   |none=>none
  |none=>none
 | .slice (some ⟨0,0,some 0⟩) 0 _=>some (0,[])
 |_=>none
theorem ap0 {size n : Nat} {x x' : Value} {vs : List Value} (h : v7 hp size x = some (n, vs)) (hx : VR σ x x') (hw : HR B w0 σ hp w) :
  ∃us,VRL σ vs us/\us.length=n*size/\(∃b c,x'= .slice b n c/\(b=none->n=0/\us=[])/\ ∀a,b=some a-> ∀j u,us[j]? =some u->w.cell? (a.add j)=some u):=by
 unfold v7 at h;split at h
 ·rename_i k c
  cases hb:Nat.beq k 0 with
  |false=>grind
  |true=>
   rw[hb,bJ6]at h;cases h;have hk:=bI4 hb;subst hk;cases hx;exact⟨[],VRL.nil σ,by simp,none,c,rfl,(fun _=>⟨rfl,rfl⟩),(fun a ha=>by cases ha)⟩
 ·rename_i i o k cap
  split at h
  ·rename_i b hg
   split at h
   ·rename_i c m z hr
    cases hb:Nat.ble (o+k*size) m with
    |false=>grind
    |true=>
     rw[hb,bJ6]at h;split at h
     ·rename_i vs' hl
      cases h;cases hx with
      |slice _ _ p _ _ c' hp' hc hl'=>
      obtain⟨us,h1,h2,h3⟩:=hw.cellsR hg hr (bI3 hb) hl hp'
      grind
     ·cases h
   ·cases h
  ·cases h
 ·simp only[bH9,bI1]at h
  obtain⟨rfl,rfl⟩:=h;cases hx with
  |vague q c'=>exact⟨[],VRL.nil σ,by simp,_,c',rfl,(fun h=>by cases h),(fun a _ j u hu=>by simp at hu)⟩
 ·cases h
theorem ae1 {size n : Nat} {b : Option Addr} {c : Nat} {us : List Value} (hlen : us.length = n * size) (hn : b = none → n = 0 ∧ us = [])
  (hs:∀a,b=some a-> ∀j u,us[j]? =some u->w.cell? (a.add j)=some u):
  (Builtin.firstCells size n (.slice b n c)).run P w= .ok us.toArray w:=by
 cases b with
 |none=>obtain⟨rfl,rfl⟩:=hn rfl;exact run_firstCells_none w size 0 0 c
 |some a=>exact run_firstCells_some w size n a n c us hlen (hs a rfl)
theorem I9 (t u ty e e2 : TypeId) (i : TypeInfo) (ht : P.underlying t = some (.slice e)) (hu : P.underlying u = some (.slice e2)) (hi : P.info? e = some i)
  (a:Addr) (sLen sCap n c:Nat) (b:Option Addr) (us:List Value) (hf:(Builtin.firstCells i.size n (.slice b n c)).run P w= .ok us.toArray w)
  (hroom:sLen+n<=sCap) {w':World} (hst:(storeCells (a.add (sLen*i.size)) us).run P w= .ok () w'):
  (Builtin.append_ #[t,u] ty #[.slice (some a) sLen sCap,.slice b n c]).run P w= .ok (.slice (some a) (sLen+n) sCap) w':=by
 simp[Builtin.append_,bK3 ht,bK3 hu,sizeOf,typeInfo,hi,Builtin.lenOf,hroom,hf,hst]
theorem O6 (t u ty e e2 : TypeId) (i : TypeInfo) (z : Value) (ht : P.underlying t = some (.slice e)) (hu : P.underlying u = some (.slice e2)) (hi : P.info? e = some i) (hz : i.zero = some z)
  (base:Option Addr) (sLen sCap n c:Nat) (b:Option Addr) (olds us:List Value)
  (hfo:∀w',w'.heap=w.heap->(Builtin.firstCells i.size sLen (.slice base sLen sCap)).run P w'= .ok olds.toArray w')
  (hf:∀w',w'.heap=w.heap->(Builtin.firstCells i.size n (.slice b n c)).run P w'= .ok us.toArray w')
  (hg:sCap<sLen+n) (h63:((sLen+n:Nat):Int)<=9223372036854775807) (hfit:Builtin.nextslicecap (sLen+n) sCap*i.bytes<=281474976710656):
  (Builtin.append_ #[t,u] ty #[.slice base sLen sCap,.slice b n c]).run P w=
   .ok (.slice (some ⟨w.heap.size,0,none⟩) (sLen+n) (grownCap w (sLen+n) sCap e))
    (w.drew.alloc (.cells (olds.toArray++us.toArray++Builtin.zeroCells z.cells (grownCap w (sLen+n) sCap e-(sLen+n))) e)):=by
 have hn:¬(sLen+n<=sCap):=by omega
 have h63':¬(9223372036854775807<((sLen:Int)+(n:Int))):=by omega
 have h48':¬(281474976710656<Builtin.nextslicecap (sLen+n) sCap*i.bytes):=by omega
 have e1:=hf w.drew rfl;have e2':=hfo w.drew rfl;simp[Builtin.append_,bK3 ht,bK3 hu,sizeOf,typeInfo,zeroValue,hi,hz,Builtin.lenOf,hn,h63',h48',Question.forced,e1,e2',newRow,grownCap]
 grind
theorem HR.kill (h:HR B w0 σ hp w)(i:Nat):HR B w0 σ {hp with m:=hp.m.set i none} w:=by
 refine⟨h.os,h.tape,h.output,h.size,h.old,h.kept,h.fresh,?_,?_⟩
 ·intro j b hj
  simp only[T.get_set]at hj
  by_cases hji:j=i
  ·rw[bK1 hji]at hj;cases hj
  ·rw[bJ9 hji]at hj;exact h.live j b hj
 ·intro a b b1 b2 p q ha hb hne hpa hqb
  simp only[T.get_set]at ha hb
  by_cases hai:a=i
  ·rw[bK1 hai]at ha;cases ha
  ·rw[bJ9 hai]at ha
   by_cases hbi:b=i
   ·rw[bK1 hbi]at hb;cases hb
   ·rw[bJ9 hbi]at hb
    exact h.inj a b _ _ p q ha hb hne hpa hqb
theorem HR.grown (hw : HR B w0 σ hp w) {vs us : List Value} (hv : VRL σ vs us) (more : Array Value) (c : T Value) (hc : ∀ j, j < vs.length → c.get j = vs[j]?) (e z : Nat) :
  HR B w0 (σ.ext hp.nx ⟨w.heap.size,0,us.length+more.size,z⟩) ⟨hp.m.set hp.nx (some (.cells c vs.length e z)),hp.nx+1⟩ (w.drew.alloc (.cells (us.toArray++more) e)):=by
 have:=hw.drew.alloc c vs.length e z (us.toArray++more) (by rw[hv.1];simp) (fun j hj=>by
  have hj':j<us.length:=by rw[<-hv.1];exact hj
  refine⟨vs[j],us[j],by rw[hc j hj];simp[hj],?_,hv.2 j _ _ (by simp[hj]) (by simp[hj'])⟩
  simp[Array.getElem?_append,hj'])
 simp_all
theorem HR.of_same (h:HR B w0 σ hp w){hp2:Hp}(hn:hp2.nx=hp.nx)(hm:∀i,hp2.m.get i=hp.m.get i):HR B w0 σ hp2 w:=
 ⟨h.os,h.tape,h.output,h.size,h.old,h.kept,fun i hi=>h.fresh i (by rw[<-hn];exact hi),fun i b hg=>h.live i b (by rw[<-hm];exact hg),
  fun i j b b' p q hi hj=>h.inj i j b b' p q (by rw[<-hm];exact hi) (by rw[<-hm];exact hj)⟩
def B3 (P : Program) (hp : Hp) (t u : TypeId) (s x : Value) : Option (Value × Hp) :=
 match P.underlying t,P.underlying u with
 | some (.slice e), some (.slice _) => match P.info? e with
  |none=>none
  | some ie => match ie.zero with
   |none=>none
   | some z => bif Nat.beq z.cells.toList.length ie.size && Nat.ble ie.bytes 1048576 then
     match v7 hp ie.size x with
     |none=>none
     | some (n, news) => match s with
      | .slice none sLen sCap => bif Nat.beq sLen 0 && Nat.beq sCap 0 && Nat.ble n 67108864 then
        bif Nat.beq n 0 then some (.slice none 0 0,hp)
        else some (.slice (some ⟨hp.nx,0,none⟩) n (c7 n 0),hp.new news e ie.size)
       else none
      | .slice (some ⟨i,o,none⟩) sLen sCap=>match hp.m.get i with
       |some (.cells c k e' z')=>
        bif Nat.ble (sLen+n) 67108864&&news.all Value.oneCell' then
         bif Nat.beq n 0 then
          bif Nat.ble sLen sCap then some (.slice (some ⟨i,o,none⟩) sLen sCap,hp)else none
         else
          bif Nat.ble unk sCap then
           bif Nat.ble 1 (C3 sCap)&&Nat.ble (C3 sCap) (sLen+n)then
            bif Nat.ble (o+sLen*ie.size) k then
             match n9 c o (sLen*ie.size)with
             |none=>none
             |some olds=>some (.slice (some ⟨hp.nx,0,none⟩) (sLen+n) (c7 (sLen+n) 0),hp.new (olds++news) e ie.size)
            else none
           else bif Nat.beq z' ie.size&&Nat.beq e' e&&Nat.ble (o+sLen*ie.size) k then
            bif Nat.ble (sLen+n) (I6 sCap)then
             some (.slice (some ⟨i,o,none⟩) (sLen+n) sCap,at3 hp i c (Nat.max k (o+(sLen+n)*ie.size)) e' z' (o+sLen*ie.size) news)
            else
            match n9 c o (sLen*ie.size)with
            |none=>none
            |some olds=>
             (bif Nat.beq o 0 then fill c (sLen*ie.size) news else fill (fill .e 0 olds) (sLen*ie.size) news).force fun ct=>
              some (.slice (some ⟨hp.nx,0,none⟩) (sLen+n) (c7 (sLen+n) 0),⟨(hp.m.set i none).set hp.nx (some (.cells ct ((sLen+n)*ie.size) e' z')),hp.nx+1⟩)
           else none
          else bif Nat.ble (sLen+n) sCap then
           bif Nat.ble (o+(sLen+n)*ie.size) k then
            some (.slice (some ⟨i,o,none⟩) (sLen+n) sCap,at3 hp i c k e' z' (o+sLen*ie.size) news)
           else none
          else
           bif Nat.ble (o+sLen*ie.size) k then
            match n9 c o (sLen*ie.size)with
            |none=>none
            |some olds=>some (.slice (some ⟨hp.nx,0,none⟩) (sLen+n) (c7 (sLen+n) 0),hp.new (olds++news) e ie.size)
           else none
        else none
       |some (.ro c k _ _)=>
        bif Nat.ble (sLen+n) 67108864&&Nat.ble sLen sCap&& !Nat.ble unk sCap then
         bif Nat.beq n 0 then some (.slice (some ⟨i,o,none⟩) sLen sCap,hp)
         else bif Nat.ble (sLen+n) sCap then none
         else bif Nat.ble (o+sLen*ie.size) k then
          match n9 c o (sLen*ie.size)with
          |none=>none
          |some olds=>some (.slice (some ⟨hp.nx,0,none⟩) (sLen+n) (c7 (sLen+n) 0),hp.new (olds++news) e ie.size)
         else none
        else none
       |_=>none
      |_=>none
    else none
 |_,_=>none
theorem C7 {c:T Value}:∀ {vs:List Value} {o:Nat},(∀j,j<vs.length->c.get (o+j)=vs[j]?)->n9 c o vs.length=some vs
 | [],o,_=>rfl
 |v::vs,o,h=>by
  simp only[bM2,n9];have h0:=h 0 (by simp)
  simp only[bO5,bJ5]at h0;rw[h0];have:=C7 (c:=c) (vs:=vs) (o:=o+1) (fun j hj=>by have:=h (j+1) (by simp;omega);rw[show o+(j+1)=o+1+j by omega]at this;simpa using this)
  rw[this]
theorem VR.unkSlice (σ:Sg)(i:Nat)(p:Pl)(hd:p.dl=0){l c':Nat}(hl:l<=c')(hb:c'*p.esz<=p.siz):VR (σ.ext i p) (.slice (some ⟨i,0,none⟩) l (c7 l 0)) (.slice (some ⟨p.blk,0,none⟩) l c'):=by
 have:=VR.slice (σ:=σ.ext i p) i 0 p l (c7 l 0) c' (Sg.ext_same _ _ _) (.inr ⟨p7 _ _,by rw[G4 D7];exact hl,.inl (F5 D7),by rw[hd];omega⟩) hl
 grind
theorem af3 {w':World}(h:w'.heap=w.heap)(a:Addr):w'.cell? a=w.cell? a:=by
 unfold World.cell?;rw[h]
set_option maxHeartbeats 1000000 in
theorem aG8 {t u : TypeId} {s s' x x' : Value} {v : Value} {hp' : Hp} (h : B3 P hp t u s x = some (v, hp')) (hs : VR σ s s') (hx : VR σ x x') (hw : HR B w0 σ hp w) (ty : TypeId) :
  MOK hp B w0 σ v hp' ((Builtin.append_ #[t,u] ty #[s',x']).run P w):=by
 unfold B3 at h;split at h
 case h_2=>cases h
 rename_i e e2 ht hu;split at h
 ·cases h
 rename_i ie hie;split at h
 ·cases h
 rename_i z hz;cases hb:Nat.beq z.cells.toList.length ie.size&&Nat.ble ie.bytes 1048576 with
 |false=>grind
 |true=>
 rw[hb,bJ6]at h;simp only[bI0]at hb;have ez:z.cells.size=ie.size:=by simp_all
 have eb:=bI3 hb.2;split at h
 ·cases h
 rename_i n news hfx;obtain⟨us,hv,hlen,b,c,rfl,hbn,hbs⟩:=ap0 hfx hx hw;have hnl:news.length=n*ie.size:=by rw[hv.1];exact hlen
 have hf:(Builtin.firstCells ie.size n (.slice b n c)).run P w= .ok us.toArray w:=ae1 hlen hbn hbs;have hfw:∀w':World,w'.heap=w.heap->(Builtin.firstCells ie.size n (.slice b n c)).run P w'= .ok us.toArray w':=fun w' hh=>
  ae1 hlen hbn (fun a ha j u hu=>by rw[af3 hh];exact hbs a ha j u hu)
 split at h
 ·rename_i sLen sCap
  cases h0:Nat.beq sLen 0&&Nat.beq sCap 0&&Nat.ble n 67108864 with
  |false=>grind
  |true=>
  rw[h0,bJ6]at h;simp only[bI0]at h0;have e1:=bI4 h0.1.1;have e2':=bI4 h0.1.2;have hn:=bI3 h0.2;subst e1;subst e2';cases hs;cases hn0:Nat.beq n 0 with
  |true=>
   rw[hn0,bJ6]at h;cases h;have:=bI4 hn0;subst this;have hus:us=[]:=bI5 (by simpa using hlen)
   subst hus;refine⟨σ,.slice none 0 0,w,?_,Sg.gr_refl _ σ,.nils 0 0,hw⟩;simp[Builtin.append_,bK3 ht,bK3 hu,sizeOf,typeInfo,hie,Builtin.lenOf,hf]
  |false=>
   rw[hn0,bJ7]at h;cases h;have hn0':n≠0:=fun e=>by rw[e]at hn0;cases hn0
   have hr:=O6 (P:=P) (w:=w) t u ty e e2 ie z ht hu hie hz none 0 0 n c b [] us (fun w' _=>run_firstCells_none w' ie.size 0 0 0) hfw (by omega) (by omega)
    (growslice_fits (by omega) (by have:=Nat.mul_le_mul (show 0+n<=67108864 by omega) eb;omega))
   simp only[bL1]at hr;have hge:=grownCap_ge w n 0 e;have hgr:=hw.grown hv (Builtin.zeroCells z.cells (grownCap w n 0 e-n)) (fill .e 0 news) (fun j hj=>B6 news j hj) e ie.size
   refine⟨_,_,_,hr,hw.le_new _,VR.unkSlice σ hp.nx ⟨w.heap.size,0,us.length+(Builtin.zeroCells z.cells (grownCap w n 0 e-n)).size,ie.size⟩ rfl hge ?_,?_⟩
   ·show grownCap w n 0 e*ie.size<=us.length+_
    rw[size_zeroCells,hlen,ez,<-bL5]
    grind
   ·simpa [Hp.new]using hgr
 ·rename_i i o sLen sCap
  split at h
  case h_3=>cases h
  case h_2=>
   rename_i k0 k e' z' hg;cases h0:Nat.ble (sLen+n) 67108864&&Nat.ble sLen sCap&& !Nat.ble unk sCap with
   |false=>grind
   |true=>
   rw[h0,bJ6]at h;simp only[bI0,bM5]at h0;obtain⟨⟨g1,g2⟩,g3⟩:=h0;have hn:=bI3 g1;have g3:¬unk<=sCap:=fun h=>by rw[bI6 h]at g3;cases g3
   cases hs with
   |slice _ _ p _ _ c' hpi hcc hll=>
   obtain⟨rfl,_⟩:sCap=c'/\sCap<unk:=by
    grind
   cases hn0:Nat.beq n 0 with
   |true=>
    rw[hn0,bJ6]at h;have:=bI4 hn0;subst this;have hus:us=[]:=bI5 (by simpa using hlen)
    subst hus;cases h;refine⟨σ,_,w,I9 t u ty e e2 ie ht hu hie _ sLen sCap 0 c b [] hf (by omega) (by simp[storeCells]),Sg.gr_refl _ σ,.slice i o p sLen sCap sCap hpi hcc hll,hw⟩
   |false=>
   rw[hn0,bJ7]at h;have hn0':n≠0:=fun e=>by rw[e]at hn0;cases hn0
   cases hro:Nat.ble (sLen+n) sCap with
   |true=>grind
   |false=>
   rw[hro,bJ7]at h;have hlt:sCap<sLen+n:=Nat.lt_of_not_le fun h=>by rw[bI6 h]at hro;cases hro
   cases hok:Nat.ble (o+sLen*ie.size) k with
   |false=>grind
   |true=>
   rw[hok,bJ6]at h;have hok:=bI3 hok;split at h
   ·cases h
   rename_i olds hlo;simp only[bH9,bI1]at h;obtain⟨rfl,rfl⟩:=h;obtain⟨us0,hv0,hlen0,hc0⟩:=hw.cellsR hg rfl hok hlo hpi;have hfo:∀w':World,w'.heap=w.heap->(Builtin.firstCells ie.size sLen (.slice (some ⟨p.blk,p.dl+o,none⟩) sLen sCap)).run P w'= .ok us0.toArray w':=fun w' hh=>
    run_firstCells_some w' ie.size sLen _ sLen sCap us0 hlen0 (fun j u hu=>by rw[af3 hh];exact hc0 j u hu)
   have hr:=O6 (P:=P) (w:=w) t u ty e e2 ie z ht hu hie hz (some ⟨p.blk,p.dl+o,none⟩) sLen sCap n c b us0 us hfo hfw hlt (by omega)
    (growslice_fits hlt (by have:=Nat.mul_le_mul hn eb;omega))
   have hge:=grownCap_ge w (sLen+n) sCap e;have hcat:=hv0.append hv;have hcl:(olds++news).length=(sLen+n)*ie.size:=by rw[hcat.1,bK6,hlen0,hlen,bL5]
   have hgr:=hw.grown hcat (Builtin.zeroCells z.cells (grownCap w (sLen+n) sCap e-(sLen+n))) (fill .e 0 (olds++news)) (fun j hj=>B6 _ j hj) e ie.size
   have hur:(us0++us).length=(sLen+n)*ie.size:=by rw[<-hcat.1];exact hcl
   rw[show(us0++us).toArray=us0.toArray++us.toArray by simp]at hgr
   refine⟨_,_,_,hr,hw.le_new _,VR.unkSlice σ hp.nx ⟨w.heap.size,0,(us0++us).length+(Builtin.zeroCells z.cells (grownCap w (sLen+n) sCap e-(sLen+n))).size,ie.size⟩ rfl hge ?_,by simpa [Hp.new]using hgr⟩
   show grownCap w (sLen+n) sCap e*ie.size<=(us0++us).length+_;rw[size_zeroCells,hur,ez,<-bL5]
   grind
  rename_i k0 k e' z' hg;cases h0:Nat.ble (sLen+n) 67108864&&news.all Value.oneCell' with
  |false=>rw[h0]at h;cases h
  |true=>
  rw[h0,bJ6]at h;simp only[bI0]at h0;have hn:=bI3 h0.1;have hone:=hv.all_oneCell h0.2;cases hs with
  |slice _ _ p _ _ c' hpi hcc hll=>
  obtain⟨k1,k2⟩:=hw.place hg hpi;cases hn0:Nat.beq n 0 with
  |true=>
   rw[hn0,bJ6]at h;have:=bI4 hn0;subst this;have hus:us=[]:=bI5 (by simpa using hlen)
   subst hus;cases hle:Nat.ble sLen sCap with
   |false=>simp_all
   |true=>
    rw[hle,bJ6]at h;simp only[bH9,bI1]at h;obtain⟨rfl,rfl⟩:=h;refine⟨σ,_,w,I9 t u ty e e2 ie ht hu hie _ sLen c' 0 c b [] hf (by omega) (by simp[storeCells]),Sg.gr_refl _ σ,.slice i o p sLen sCap c' hpi hcc hll,hw⟩
  |false=>
  rw[hn0,bJ7]at h;have hn0':n≠0:=fun e=>by rw[e]at hn0;cases hn0
  have grow : ∀ olds : List Value, n9 k0 o (sLen * ie.size) = some olds → o + sLen * ie.size ≤ k → c' < sLen + n → ∀ (hpx : Hp), HR B w0 σ hpx w → ∀ ct : T Value, (∀ j, j < (olds ++ news).length → ct.get j = (olds ++ news)[j]?) →
    ∀ex zx,ex=e->zx=ie.size->hpx.nx=hp.nx->
    MOK hp B w0 σ (.slice (some ⟨hp.nx,0,none⟩) (sLen+n) (c7 (sLen+n) 0)) ⟨hpx.m.set hp.nx (some (.cells ct ((sLen+n)*ie.size) ex zx)),hp.nx+1⟩
     ((Builtin.append_ #[t,u] ty #[.slice (some ⟨p.blk,p.dl+o,none⟩) sLen c',.slice b n c]).run P w):=by
   rintro olds hlo hok hlt hpx hwx ct hct ex zx rfl rfl hnx
   obtain⟨us0,hv0,hlen0,hc0⟩:=hw.cells hg hok hlo hpi;have hfo:∀w':World,w'.heap=w.heap->(Builtin.firstCells ie.size sLen (.slice (some ⟨p.blk,p.dl+o,none⟩) sLen c')).run P w'= .ok us0.toArray w':=fun w' hh=>
    run_firstCells_some w' ie.size sLen _ sLen c' us0 hlen0 (fun j u hu=>by rw[af3 hh];exact hc0 j u hu)
   have hr:=O6 (P:=P) (w:=w) t u ty ex e2 ie z ht hu hie hz (some ⟨p.blk,p.dl+o,none⟩) sLen c' n c b us0 us hfo hfw hlt (by omega)
    (growslice_fits hlt (by have:=Nat.mul_le_mul hn eb;omega))
   have hge:=grownCap_ge w (sLen+n) c' ex;have hcat:=hv0.append hv;have hcl:(olds++news).length=(sLen+n)*ie.size:=by rw[hcat.1,bK6,hlen0,hlen,bL5]
   have hgr:=hwx.grown hcat (Builtin.zeroCells z.cells (grownCap w (sLen+n) c' ex-(sLen+n))) ct hct ex ie.size;rw[hcl,hnx]at hgr;have hur:(us0++us).length=(sLen+n)*ie.size:=by grind
   rw[show(us0++us).toArray=us0.toArray++us.toArray by simp]at hgr
   refine⟨_,_,_,hr,hw.le_new _,VR.unkSlice σ hp.nx ⟨w.heap.size,0,(us0++us).length+(Builtin.zeroCells z.cells (grownCap w (sLen+n) c' ex-(sLen+n))).size,ie.size⟩ rfl hge ?_,hgr⟩;show grownCap w (sLen+n) c' ex*ie.size<=(us0++us).length+_;rw[size_zeroCells,hur,ez,<-bL5];exact bJ2 _ (by omega)
  have grow2 : ∀ {v : Value} {hp' : Hp}, c' < sLen + n → (bif Nat.ble (o + sLen * ie.size) k then
    match n9 k0 o (sLen*ie.size)with
    |none=>none
    |some olds=>some (Value.slice (some ⟨hp.nx,0,none⟩) (sLen+n) (c7 (sLen+n) 0),hp.new (olds++news) e ie.size)
   else none)=some (v,hp')->MOK hp B w0 σ v hp' ((Builtin.append_ #[t,u] ty #[.slice (some ⟨p.blk,p.dl+o,none⟩) sLen c',.slice b n c]).run P w):=by
   intro v hp' hlt h;cases hok:Nat.ble (o+sLen*ie.size) k with
   |false=>rw[hok]at h;cases h
   |true=>
    rw[hok,bJ6]at h;have hok:=bI3 hok;split at h
    ·cases h
    rename_i olds hlo;simp only[bH9,bI1]at h;obtain⟨rfl,rfl⟩:=h;have hol:=(j9 hlo).1;have:=grow olds hlo hok hlt hp hw (fill .e 0 (olds++news)) (fun j hj=>B6 _ j hj) e ie.size rfl rfl rfl
    rw[show(sLen+n)*ie.size=(olds++news).length by rw[bK6,hol,hnl,bL5]]at this
    exact this
  cases hcu:Nat.ble unk sCap with
  | true =>
   rw[hcu,bJ6]at h;have hcu:=bI3 hcu;obtain⟨hclo,hchi,hbnd⟩:I6 sCap<=c'/\(C3 sCap=0\/c'<C3 sCap)/\p.dl+o+c'*p.esz<=p.siz:=by
    rcases hcc with⟨_,h⟩| ⟨_,h2,h3,h4⟩
    ·omega
    ·exact⟨h2,h3,h4⟩
   cases hsure:Nat.ble 1 (C3 sCap)&&Nat.ble (C3 sCap) (sLen+n)with
   |true=>
    rw[hsure,bJ6]at h;simp only[bI0]at hsure;have g1:=bI3 hsure.1;have g2:=bI3 hsure.2;exact grow2 (by omega) h
   |false=>
   rw[hsure,bJ7]at h;cases h1:Nat.beq z' ie.size&&Nat.beq e' e&&Nat.ble (o+sLen*ie.size) k with
   |false=>rw[h1]at h;cases h
   |true=>
   rw[h1,bJ6]at h;simp only[bI0]at h1;have hz':=bI4 h1.1.1;have he:=bI4 h1.1.2;have hok:=bI3 h1.2;cases hsl:Nat.ble (sLen+n) (I6 sCap)with
   |true=>
    rw[hsl,bJ6,H8]at h;have hsl:=bI3 hsl;have hroom:sLen+n<=c':=by omega
    simp only[bH9,bI1]at h;obtain⟨rfl,rfl⟩:=h;have hfit:p.dl+(o+sLen*ie.size+n*ie.size)<=p.siz:=by
     have:(sLen+n)*ie.size<=c'*p.esz:=by rw[k2,hz'];exact bJ2 _ hroom
     rw[bL5]at this;omega
    obtain⟨w',hst,hh,_⟩:=hw.store (o:=o+sLen*ie.size) hg hpi hv hone hok (by rw[hnl];omega) P
    have hadd:(⟨p.blk,p.dl+o,none⟩:Addr).add (sLen*ie.size)=⟨p.blk,p.dl+(o+sLen*ie.size),none⟩:=by rw[bR2,bN9]
    have hrun:=I9 (P:=P) t u ty e e2 ie ht hu hie ⟨p.blk,p.dl+o,none⟩ sLen c' n c b us hf hroom (w':=w') (by rw[hadd];exact hst)
    refine⟨σ,_,w',hrun,Sg.gr_refl _ σ,.slice i o p _ _ _ hpi (.inr ⟨hcu,hclo,hchi,hbnd⟩) hroom,?_⟩;rw[hnl,show max k (o+sLen*ie.size+n*ie.size)=Nat.max k (o+(sLen+n)*ie.size) by rw[bL5,bN9]]at hh
    exact hh
   |false=>
   rw[hsl,bJ7]at h;split at h
   ·cases h
   rename_i olds hlo;rw[T.force_eq]at h;generalize htr:(bif Nat.beq o 0 then fill k0 (sLen*ie.size) news else fill (fill .e 0 olds) (sLen*ie.size) news)=ct at h
   simp only[bH9,bI1]at h;obtain⟨rfl,rfl⟩:=h;obtain⟨hol,hog⟩:=j9 hlo;have hct:∀j,j<(olds++news).length->ct.get j=(olds++news)[j]? :=by
    intro j hj;rw[<-htr];have hjl:j<sLen*ie.size+news.length:=by simpa [hol]using hj
    by_cases hjs:j<sLen*ie.size
    ·rw[bI8 (by omega),hog j hjs]
     cases ho:Nat.beq o 0 with
     |true=>
      have:=bI4 ho;subst this;rw[bJ6,l6,bJ9 (by omega)];simp
     |false=>
      rw[bJ7,l6,bJ9 (by omega),B6 olds j (by omega),hog j hjs]
    ·rw[bI7 (by omega),hol]
     cases ho:Nat.beq o 0 with
     |true=>rw[bJ6,l6,bK1 (by omega)]
     |false=>rw[bJ7,l6,bK1 (by omega)]
   by_cases hroom:sLen+n<=c'
   ·
    have hfit:p.dl+o+(sLen*ie.size+n*ie.size)<=p.siz:=by
     have:(sLen+n)*ie.size<=c'*p.esz:=by rw[k2,hz'];exact bJ2 _ hroom
     rw[bL5]at this;omega
    have hm:=hw.move hg hpi (o:=o) (k:=sLen*ie.size) hok (bif Nat.beq o 0 then k0 else fill .e 0 olds) (fun j hj=>by
     cases ho:Nat.beq o 0 with
     |true=>have:=bI4 ho;subst this;simp
     |false=>rw[bJ7,B6 olds j (by omega),hog j hj])
    have hle:=hw.le_new ⟨p.blk,p.dl+o,p.siz,p.esz⟩;obtain⟨w',hst,hh,_⟩:=hm.store (i:=hp.nx) (o:=sLen*ie.size) (by rw[T.get_set,bK1 rfl]) (Sg.ext_same _ _ _) (hv.mono hle.le) hone (bK2 _) (by show p.dl+o+_+_<=p.siz;rw[hnl];omega) P
    have hadd:(⟨p.blk,p.dl+o,none⟩:Addr).add (sLen*ie.size)=⟨p.blk,p.dl+o+sLen*ie.size,none⟩:=bR2 _ _ _;have hrun:=I9 (P:=P) t u ty e e2 ie ht hu hie ⟨p.blk,p.dl+o,none⟩ sLen c' n c b us hf hroom (w':=w') (by rw[hadd];exact hst)
    refine⟨_,_,w',hrun,hle,?_,?_⟩
    ·have:=VR.slice (σ:=σ.ext hp.nx ⟨p.blk,p.dl+o,p.siz,p.esz⟩) hp.nx 0 ⟨p.blk,p.dl+o,p.siz,p.esz⟩ (sLen+n) (c7 (sLen+n) 0) c' (Sg.ext_same _ _ _) (.inr ⟨p7 _ _,by rw[G4 D7];exact hroom,.inl (F5 D7),by simpa using hbnd⟩) hroom
     simpa using this
    ·have hft : fill (bif Nat.beq o 0 then k0 else fill .e 0 olds) (sLen * ie.size) news = ct := by
      rw[<-htr];cases Nat.beq o 0<;>rfl
     rw[hft,hnl,show max (sLen*ie.size) (sLen*ie.size+n*ie.size)=(sLen+n)*ie.size by rw[bL5];omega]at hh
     refine hh.of_same rfl (fun j=>?_)
     simp only[T.get_set];split<;>rfl
   ·subst hz'
    subst he;exact grow olds hlo hok (by omega) {hp with m:=hp.m.set i none} (hw.kill i) _ hct _ _ rfl rfl rfl
  |false=>
   rw[hcu,bJ7]at h;have hcu':¬unk<=sCap:=fun h=>by rw[bI6 h]at hcu;cases hcu
   obtain⟨rfl,hltu⟩:sCap=c'/\sCap<unk:=by
    rcases hcc with h| ⟨h,_⟩
    ·exact h
    ·exact absurd h hcu'
   cases hroom:Nat.ble (sLen+n) sCap with
   |true=>
    rw[hroom,bJ6]at h;have hroom:=bI3 hroom;cases hin:Nat.ble (o+(sLen+n)*ie.size) k with
    |false=>rw[hin]at h;cases h
    |true=>
     rw[hin,bJ6,H8]at h;have hin:=bI3 hin;simp only[bH9,bI1]at h;obtain⟨rfl,rfl⟩:=h;rw[bL5]at hin;obtain⟨w',hst,hh,_⟩:=hw.store (o:=o+sLen*ie.size) hg hpi hv hone (by omega) (by rw[hnl];omega) P
     have hadd:(⟨p.blk,p.dl+o,none⟩:Addr).add (sLen*ie.size)=⟨p.blk,p.dl+(o+sLen*ie.size),none⟩:=by rw[bR2,bN9]
     have hrun:=I9 (P:=P) t u ty e e2 ie ht hu hie ⟨p.blk,p.dl+o,none⟩ sLen sCap n c b us hf hroom (w':=w') (by rw[hadd];exact hst)
     refine⟨σ,_,w',hrun,Sg.gr_refl _ σ,.slice i o p _ _ _ hpi (.inl ⟨rfl,hltu⟩) hroom,?_⟩
     ·rw[hnl,show max k (o+sLen*ie.size+n*ie.size)=k by omega]at hh
      exact hh
   |false=>
    rw[hroom,bJ7]at h;have hroom':¬sLen+n<=sCap:=fun h=>by rw[bI6 h]at hroom;cases hroom
    exact grow2 (by omega) h
 ·cases h
end
end Go.Xe
end PartXm8
noncomputable section PartXm9
namespace Go.Xe
open Go.RowKit
section
variable {P :Program}{B:BS}{w0:World}{σ:Sg}{hp:Hp}{w:World}
def aL0 (P : Program) (hp : Hp) (t : TypeId) (d x : Value) : Option (Value × Hp) :=
 match P.underlying t with
 | some (.slice e) => match P.info? e with
  |none=>none
  | some ie => match d with
   | .slice none dl _ => bif Nat.beq dl 0 then
     match x with
     | .slice (some ⟨_,_,none⟩) _ _| .slice none _ _=>some (.int .i64 0,hp)
     |_=>none
    else none
   | .slice (some ⟨0, 0, some 0⟩) 0 _ => match x with
     | .slice (some ⟨_,_,none⟩) _ _=>some (.int .i64 0,hp)
     |_=>none
   | .slice (some ⟨i, o, none⟩) dl dc => match hp.m.get i with
    | some (.cells c k e' z') => match x with
     | .slice none n _=>bif Nat.beq n 0 then some (.int .i64 0,hp)else none
     | .slice (some ⟨j, q, none⟩) n cx => match v7 hp ie.size (.slice (some ⟨j, q, none⟩) (Nat.min n dl) cx) with
      | some (m, vs) => bif (Nat.ble (o + m * ie.size) k || (Nat.ble unk dc && Nat.beq z' ie.size && Nat.ble o k)) && Nat.ble m dl && vs.all Value.oneCell' then
        some (.int .i64 m,at3 hp i c (Nat.max k (o+m*ie.size)) e' z' o vs)
       else none
      |none=>none
     | .slice (some ⟨0,0,some 0⟩) 0 _=>some (.int .i64 0,hp)
     |_=>none
    |_=>none
   |_=>none
 |_=>none
theorem aY1 {t u : TypeId} {d d' x x' : Value} {v : Value} {hp' : Hp} (h : aL0 P hp t d x = some (v, hp')) (hd : VR σ d d') (hx : VR σ x x') (hw : HR B w0 σ hp w) (ty : TypeId) :
  MOK hp B w0 σ v hp' ((Builtin.copy_ #[t,u] ty #[d',x']).run P w):=by
 unfold aL0 at h;split at h
 case h_2=>cases h
 rename_i e ht;split at h
 ·cases h
 rename_i ie hie;split at h
 ·rename_i dl dc
  cases hb:Nat.beq dl 0 with
  |false=>grind
  |true=>
  rw[hb,bJ6]at h;have hb:=bI4 hb;subst hb;cases hd;split at h
  ·rename_i j q n cx
   cases h;cases hx with
   |slice _ _ p _ _ c' hp' hc hl=>
   refine⟨σ,_,w,?_,Sg.gr_refl _ σ,.int _ _,hw⟩;simp[Builtin.copy_,bK3 ht,Builtin.lenOf,sizeOf,typeInfo,hie,Builtin.firstCells,loadCells,loadCellsFrom,goInt]
  ·rename_i n cx
   cases h;cases hx;refine⟨σ,_,w,?_,Sg.gr_refl _ σ,.int _ _,hw⟩;simp[Builtin.copy_,bK3 ht,Builtin.lenOf,sizeOf,typeInfo,hie,Builtin.firstCells,goInt]
  ·cases h
 ·rename_i dc
  split at h
  ·simp only[bH9,bI1]at h
   obtain⟨rfl,rfl⟩:=h;cases hd;cases hx with
   |slice _ _ p _ _ c' hp' hc hl=>
   refine⟨σ,_,w,?_,Sg.gr_refl _ σ,.int _ _,hw⟩;simp[Builtin.copy_,bK3 ht,Builtin.lenOf,sizeOf,typeInfo,hie,Builtin.firstCells,loadCells,loadCellsFrom,storeCells,goInt]
  ·cases h
 ·rename_i i o dl dc
  split at h
  case h_2=>cases h
  rename_i c k e' z' hg;cases hd with
  |slice _ _ p _ _ c' hpi hc hl=>
  obtain⟨k1,k2⟩:=hw.place hg hpi;split at h
  ·rename_i n cx
   cases hb:Nat.beq n 0 with
   |false=>grind
   |true=>
    rw[hb,bJ6]at h;have hb:=bI4 hb;subst hb;cases h;cases hx;refine⟨σ,_,w,?_,Sg.gr_refl _ σ,.int _ _,hw⟩;simp[Builtin.copy_,bK3 ht,Builtin.lenOf,sizeOf,typeInfo,hie,Builtin.firstCells,goInt,storeCells]
  ·rename_i j q n cx
   cases hx with
   |slice _ _ p2 _ _ cx' hp2 hc2 hl2=>
   split at h
   ·rename_i m vs hf
    cases hb:(Nat.ble (o+m*ie.size) k|| (Nat.ble unk dc&&Nat.beq z' ie.size&&Nat.ble o k))&&Nat.ble m dl&&vs.all Value.oneCell' with
    |false=>grind
    |true=>
     rw[hb,bJ6,H8]at h;simp only[bI0,bP6]at hb;have hmd:=bI3 hb.1.2;have hok2:o<=k/\p.dl+(o+m*ie.size)<=p.siz:=by
      rcases hb.1.1 with hin| ⟨⟨g1,g2⟩,g3⟩
      ·simp_all;omega
      ·have g1:=bI3 g1
       have g2:=bI4 g2;have g3:=bI3 g3;have hbnd:p.dl+o+c'*p.esz<=p.siz:=by grind
       have:m*ie.size<=c'*p.esz:=by rw[k2,g2];exact bJ2 _ (by omega)
       omega
     cases h;have hmn:Nat.min n dl<=n:=Nat.min_le_left _ _;obtain⟨us,hv,hlen,b,c2,hbe,hbn,hbs⟩:=ap0 hf (.slice j q p2 (Nat.min n dl) cx cx' hp2 hc2 (by omega)) hw
     simp only[Value.slice.injEq]at hbe;obtain⟨rfl,rfl,rfl⟩:=hbe;have hone:=hv.all_oneCell hb.2;have hvl:=hv.1;obtain⟨w',hst,hh,_⟩:=hw.store (o:=o) hg hpi hv hone hok2.1 (by rw[hvl,hlen];omega) P
     refine⟨σ,_,w',?_,Sg.gr_refl _ σ,.int _ _,?_⟩
     ·have hl:=run_loadCells_list (P:=P) w _ us (hbs _ rfl)
      rw[hlen]at hl;simp only[Builtin.copy_,List.getElem?_toArray,bJ5,bJ0,bK8,bK3 ht,bK4,Builtin.lenOf,bL3,sizeOf,typeInfo,bS1,hie,Builtin.firstCells,hl,hst,goInt]
     ·grind
   ·cases h
  ·simp only[bH9,bI1]at h
   obtain⟨rfl,rfl⟩:=h;cases hx with
   |vague q c'=>
    refine⟨σ,_,w,?_,Sg.gr_refl _ σ,.int _ _,hw⟩;simp[Builtin.copy_,bK3 ht,Builtin.lenOf,sizeOf,typeInfo,hie,Builtin.firstCells,loadCells,loadCellsFrom,storeCells,goInt]
  ·cases h
 ·cases h
def E9 (v:Value)(y:Nat):Option Nat:=
 match v with
 | .int _ n=>bif decide (0<=n)&&decide (n<=y)then some n.toNat else none
 |_=>none
theorem H6 {v v' : Value} {y n : Nat} (h : E9 v y = some n) (hv : VR σ v v') {y' : Nat} (hy : y ≤ y') (code : BoundsCode) :
  n<=y/\ ∀w,(Instr.sliceBound v' y' code).run P w= .ok n w:=by
 unfold E9 at h;split at h
 ·rename_i k m
  cases hv;cases hb:decide (0<=m)&&decide (m<=y)with
  |false=>grind
  |true=>
   rw[hb,bJ6]at h;simp only[bI0,bK0]at hb;simp only[bH9]at h;subst h;exact⟨by omega,fun w=>run_sliceBound w k m y' code hb.1 (by omega)⟩
 ·cases h
def v9 (len cb:Nat)(lo hi mx:Option Value):Option (Nat×Nat×Option Nat):=
 match(match mx with|some v=>(E9 v cb).map some|none=>some none)with
 |none=>none
 |some m=>match(match hi with|some v=>E9 v (m.getD cb)|none=>(match mx with|some _=>none|none=>some len))with
  |none=>none
  |some h=>match(match lo with|some v=>E9 v h|none=>some 0)with
   |none=>none
   |some l=>some (l,h,m)
def OVR (σ:Sg):Option Value->Option Value->Prop
 |none,none=>True
 |some v,some u=>VR σ v u
 |_,_=>False
theorem D5 {len cb cap : Nat} {lo hi mx lo' hi' mx' : Option Value} {l h : Nat} {m : Option Nat} (he : v9 len cb lo hi mx = some (l, h, m))
  (h1:OVR σ lo lo') (h2:OVR σ hi hi') (h3:OVR σ mx mx') (hc:cb<=cap) (hlc:len<=cb) (isS:Bool):
  l<=h/\h<=m.getD cb/\m.getD cb<=cb/\ ∀w,(Instr.sliceBounds isS len cap lo' hi' mx').run P w= .ok (l,h,m.getD cap) w:=by
 unfold v9 at he;cases mx with
 |none=>
  cases mx' with
  |some _=>exact h3.elim
  |none=>
  simp only[Option.getD_none]at he;cases hi with
  |none=>
   cases hi' with
   |some _=>exact h2.elim
   |none=>
   simp only at he;cases lo with
   |none=>
    cases lo' with
    |some _=>exact h1.elim
    |none=>
    cases he;exact⟨by omega,hlc,bK2 _,fun w=>by simp[Instr.sliceBounds]⟩
   |some lv=>
    cases lo' with
    |none=>exact h1.elim
    |some lv'=>
    simp only at he;cases hb:E9 lv len with
    |none=>grind
    |some l0=>
     simp only[hb,bH9,bI1]at he;obtain⟨rfl,rfl,rfl⟩:=he;obtain⟨a1,a2⟩:=H6 (P:=P) hb h1 (bK2 _) .sliceB;exact⟨a1,hlc,bK2 _,fun w=>by simp[Instr.sliceBounds,a2]⟩
  |some hv=>
   cases hi' with
   |none=>exact h2.elim
   |some hv'=>
   simp only at he;cases hbh:E9 hv cb with
   |none=>grind
   |some h0=>
    simp only[hbh]at he;obtain⟨b1,b2⟩:=H6 (P:=P) hbh h2 hc (if isS then .sliceAcap else .sliceAlen)
    cases lo with
    |none=>
     cases lo' with
     |some _=>exact h1.elim
     |none=>
     cases he;exact⟨by omega,b1,bK2 _,fun w=>by simp[Instr.sliceBounds,b2]⟩
    |some lv=>
     cases lo' with
     |none=>exact h1.elim
     |some lv'=>
     simp only at he;cases hb:E9 lv h0 with
     |none=>grind
     |some l0=>
      simp only[hb,bH9,bI1]at he;obtain⟨rfl,rfl,rfl⟩:=he;obtain⟨a1,a2⟩:=H6 (P:=P) hb h1 (bK2 _) .sliceB;exact⟨a1,b1,bK2 _,fun w=>by simp[Instr.sliceBounds,b2,a2]⟩
 |some mv=>
  cases mx' with
  |none=>exact h3.elim
  |some mv'=>
  simp only at he;cases hbm:E9 mv cb with
  |none=>grind
  |some m0=>
   simp only[hbm,bM4,bM1]at he;obtain⟨c1,c2⟩:=H6 (P:=P) hbm h3 hc (if isS then .slice3Acap else .slice3Alen)
   cases hi with
   |none=>simp at he
   |some hv=>
    cases hi' with
    |none=>exact h2.elim
    |some hv'=>
    simp only at he;cases hbh:E9 hv m0 with
    |none=>grind
    |some h0=>
     simp only[hbh]at he;obtain⟨b1,b2⟩:=H6 (P:=P) hbh h2 (bK2 _) .slice3B;cases lo with
     |none=>
      cases lo' with
      |some _=>exact h1.elim
      |none=>
      cases he;exact⟨by omega,b1,c1,fun w=>by simp[Instr.sliceBounds,b2,c2]⟩
     |some lv=>
      cases lo' with
      |none=>exact h1.elim
      |some lv'=>
      simp only at he;cases hb:E9 lv h0 with
      |none=>grind
      |some l0=>
       simp only[hb,bH9,bI1]at he;obtain⟨rfl,rfl,rfl⟩:=he;obtain⟨a1,a2⟩:=H6 (P:=P) hb h1 (bK2 _) .slice3C;exact⟨a1,b1,c1,fun w=>by simp[Instr.sliceBounds,b2,c2,a2]⟩
def q9 (P : Program) (hp : Hp) (t : TypeId) (x : Value) (lo hi mx : Option Value) : Option (Value × Hp) :=
 match P.underlying t with
 |some .string=>match x with
  | .string s=>match mx with
   |some _=>none
   |none=>match v9 s.data.toList.length s.data.toList.length lo hi none with
    |some (l,h,_)=>some (.string ⟨((s.data.toList.take h).drop l).toArray⟩,hp)
    |none=>none
  |_=>none
 | some (.slice e) => match P.info? e with
  |none=>none
  | some ie => match x with
   | .slice none len cap => bif Nat.beq len 0 && Nat.beq cap 0 then
     match v9 0 0 lo hi mx with
     |some _=>some (.slice none 0 0,hp)
     |none=>none
    else none
   | .slice (some ⟨0,0,some 0⟩) 0 _=>match v9 0 0 lo hi mx with
    |some (_,_,none)=>some (.slice (some ⟨0,0,some 0⟩) 0 unk,hp)
    |_=>none
   | .slice (some ⟨i, o, none⟩) len cap =>
    bif Nat.ble unk cap then
     bif Nat.ble (Nat.max (I6 cap) len) 67108864 then
     match v9 len (Nat.max (I6 cap) len) lo hi mx with
     |none=>none
     | some (l, h, some m) => bif Nat.beq m l then some (.slice (some ⟨i, o, none⟩) (h - l) (m - l), hp)
       else some (.slice (some ⟨i,o+l*ie.size,none⟩) (h-l) (m-l),hp)
     | some (l, h, none) => bif Nat.beq l 0 then some (.slice (some ⟨i, o, none⟩) h (c7 (Nat.max (I6 cap) len) (C3 cap)), hp) else
       bif Nat.beq l (Nat.max (I6 cap) len)then some (.slice (some ⟨0,0,some 0⟩) 0 unk,hp)
       else match hp.m.get i with
        |some (.cells _ _ _ z')=>bif Nat.beq z' ie.size then some (.slice (some ⟨i,o+l*ie.size,none⟩) (h-l) (c7 (Nat.max (I6 cap) len-l) (C3 cap-l)),hp)else none
        |_=>none
     else none
    else bif Nat.ble len cap then
     match v9 len cap lo hi mx with
     |none=>none
     | some (l, h, m) => bif Nat.beq (m.getD cap) l then some (.slice (some ⟨i, o, none⟩) (h - l) (m.getD cap - l), hp)
       else some (.slice (some ⟨i,o+l*ie.size,none⟩) (h-l) (m.getD cap-l),hp)
    else none
   |_=>none
 | some (.array n e) => match P.info? e with
  |none=>none
  | some ie => match x with
   | .pointer (some ⟨i, o, none⟩) => bif Nat.ble n 16777216 then
     match v9 n n lo hi mx with
     |none=>none
     | some (l, h, m) => bif Nat.beq (m.getD n) l then some (.slice (some ⟨i, o, none⟩) (h - l) (m.getD n - l), hp)
       else some (.slice (some ⟨i,o+l*ie.size,none⟩) (h-l) (m.getD n-l),hp)
    else none
   |_=>none
 |_=>none
theorem al6 (s:ByteArray)(l h:Nat):s.extract l h=⟨((s.data.toList.take h).drop l).toArray⟩:=by
 apply ByteArray.ext
 rw[ByteArray.data_extract]
 grind
theorem aQ2 {t : TypeId} {x x' : Value} {lo hi mx lo' hi' mx' : Option Value} {v : Value} {hp' : Hp} (h : q9 P hp t x lo hi mx = some (v, hp'))
  (hx:VR σ x x') (h1:OVR σ lo lo') (h2:OVR σ hi hi') (h3:OVR σ mx mx') (hw:HR B w0 σ hp w):
  MOK hp B w0 σ v hp' ((Instr.sliceAt t x' lo' hi' mx').run P w):=by
 unfold q9 at h;split at h
 ·rename_i hu
  split at h
  ·rename_i s
   cases hx;split at h
   ·cases h
   ·cases mx' with
    |some _=>exact h3.elim
    |none=>
    split at h
    ·rename_i l hh m hb
     cases h;obtain⟨_,_,_,a4⟩:=D5 (P:=P) (cap:=s.size) hb h1 h2 (show OVR σ none none from trivial) (by simp) (bK2 _) false
     rw[show s.data.toList.length=s.size by simp]at a4
     refine⟨σ,_,w,?_,Sg.gr_refl _ σ,.string _,hw⟩;simp only[Instr.sliceAt,bK8,bK3 hu,bK4,Instr.slice,Option.isSome_none,bP1,bR0,bL3,a4,al6]
    ·cases h
  ·cases h
 ·rename_i e hu
  split at h
  ·cases h
  rename_i ie hie;split at h
  ·rename_i len cap
   cases hb:Nat.beq len 0&&Nat.beq cap 0 with
   |false=>grind
   |true=>
    rw[hb,bJ6]at h;simp only[bI0]at hb;have e1:=bI4 hb.1;have e2:=bI4 hb.2;subst e1;subst e2;cases hx;split at h
    ·rename_i lhm hbo
     obtain⟨l,hh,m⟩:=lhm;cases h;obtain⟨a1,a2,a3,a4⟩:=D5 (P:=P) (cap:=0) hbo h1 h2 h3 (bK2 _) (bK2 _) true;have hl0:l=0:=by omega
     have hh0:hh=0:=by omega
     have hm0:m.getD 0=0:=by omega
     subst hl0;subst hh0;rw[hm0]at a4;refine⟨σ,_,w,?_,Sg.gr_refl _ σ,.nils 0 0,hw⟩;simp only[Instr.sliceAt,bK8,bK3 hu,bK4,Instr.slice,a4,sizeOf,typeInfo,bS1,hie,bL3,bR1,bS6]
    ·cases h
  ·rename_i cap
   split at h
   ·rename_i l hh hbo
    cases h;cases hx with
    |vague q c'=>
     obtain⟨a1,a2,a3,a4⟩:=D5 (P:=P) (cap:=c') hbo h1 h2 h3 (bR4 _) (bK2 _) true;simp only[Option.getD_none]at a2 a3 a4;have hl0:l=0:=by omega
     have hh0:hh=0:=by omega
     subst hl0;subst hh0;refine⟨σ,.slice (some q) 0 c',w,?_,Sg.gr_refl _ σ,.vague q c',hw⟩;have hq:(q.add 0)=q:=by simp[Addr.add]
     simp only[Instr.sliceAt,bK8,bK3 hu,bK4,Instr.slice,a4,sizeOf,typeInfo,bS1,hie,bL3,bS6,bQ1,bQ8,bM4,hq,ite_self]
   ·cases h
  ·rename_i i o len cap
   cases hx with
   |slice _ _ p _ _ c' hpi hcc hll=>
   have runs : ∀ (l hh m : Nat), (∀ w, (Instr.sliceBounds true len c' lo' hi' mx').run P w = .ok (l, hh, m) w) →
     (Instr.sliceAt t (.slice (some ⟨p.blk,p.dl+o,none⟩) len c') lo' hi' mx').run P w= .ok (.slice (some (if m=l then⟨p.blk,p.dl+o,none⟩else⟨p.blk,p.dl+(o+l*ie.size),none⟩)) (hh-l) (m-l)) w:=by
    intro l hh m a4;simp only[Instr.sliceAt,bK8,bK3 hu,bK4,Instr.slice,a4,sizeOf,typeInfo,bS1,hie,bL3]
    by_cases hml:m=l
    ·simp[hml]
    ·simp[hml,bR2,bN9]
   cases hcu:Nat.ble unk cap with
   |true=>
    rw[hcu,bJ6]at h;have hcu:=bI3 hcu;obtain⟨hclo,hchi,hbnd⟩:I6 cap<=c'/\(C3 cap=0\/c'<C3 cap)/\p.dl+o+c'*p.esz<=p.siz:=by
     grind
    have hhu:C3 cap<unk:=Nat.mod_lt _ D7;have hL:Nat.max (I6 cap) len<=c':=Nat.max_le.2 ⟨hclo,hll⟩;have hLl:len<=Nat.max (I6 cap) len:=bO9 _ _;generalize hLe:Nat.max (I6 cap) len=L at h hL hLl;cases hl64:Nat.ble L 67108864 with
    |false=>grind
    |true=>
    rw[hl64,bJ6]at h;have hl64:=bI3 hl64;split at h
    ·cases h
    ·rename_i l hh m hbo
     obtain⟨a1,a2,a3,a4⟩:=D5 (P:=P) (cap:=c') hbo h1 h2 h3 hL hLl true;simp only[bM1]at a2 a3 a4;have hr:=runs l hh m a4;have hmu:m-l<unk:=by unfold unk;omega
     cases hml:Nat.beq m l with
     |true=>
      rw[hml,bJ6]at h;have hml:=bI4 hml;subst hml;cases h;rw[bK1 rfl]at hr;exact⟨σ,_,w,hr,Sg.gr_refl _ σ,.slice i o p _ _ _ hpi (.inl ⟨rfl,hmu⟩) (by omega),hw⟩
     |false=>
      rw[hml,bJ7]at h;have hml':m≠l:=fun e=>by rw[e,t7 rfl]at hml;cases hml
      cases h;rw[bJ9 hml']at hr;exact⟨σ,_,w,hr,Sg.gr_refl _ σ,.slice i _ p _ _ _ hpi (.inl ⟨rfl,hmu⟩) (by omega),hw⟩
    ·rename_i l hh hbo
     obtain⟨a1,a2,a3,a4⟩:=D5 (P:=P) (cap:=c') hbo h1 h2 h3 hL hLl true;simp only[Option.getD_none]at a2 a3 a4;have hr:=runs l hh c' a4;cases hl0:Nat.beq l 0 with
     |true=>
      rw[hl0,bJ6]at h;have hl0:=bI4 hl0;subst hl0;cases h;simp only[bQ8,bO5,ite_self,bQ1]at hr;exact⟨σ,_,w,hr,Sg.gr_refl _ σ,.slice i o p _ _ _ hpi (.inr ⟨p7 _ _,by rw[G4 hhu];exact hL,by rw[F5 hhu];exact hchi,hbnd⟩) (by omega),hw⟩
     |false=>
      rw[hl0,bJ7]at h;cases hlh:Nat.beq l L with
      |true=>
       rw[hlh,bJ6]at h;have hlh:=bI4 hlh;have hhl:hh=l:=by omega
       subst hhl;cases h;rw[bS6]at hr;exact⟨σ,_,w,hr,Sg.gr_refl _ σ,.vague _ _,hw⟩
      |false=>
       rw[hlh,bJ7]at h;have hlh':l≠L:=fun e=>by rw[e,t7 rfl]at hlh;cases hlh
       split at h
       case h_2=>cases h
       rename_i tc k e' z' hg;obtain⟨k1,k2⟩:=hw.place hg hpi;cases hzk:Nat.beq z' ie.size with
       |false=>grind
       |true=>
        rw[hzk,bJ6]at h;have hz':=bI4 hzk;have hes:p.esz=ie.size:=by grind
        cases h;have hcl:c'≠l:=by omega
        rw[bJ9 hcl]at hr;refine⟨σ,_,w,hr,Sg.gr_refl _ σ,.slice i _ p _ _ _ hpi (.inr ⟨p7 _ _,by rw[G4 (by omega)];omega,by rw[F5 (by omega)];omega,?_⟩) (by omega),hw⟩
        rw[hes]at hbnd⊢;have:l*ie.size+(c'-l)*ie.size=c'*ie.size:=by rw[<-bL5];congr 1;omega
        omega
   |false=>
    rw[hcu,bJ7]at h;have hcu':¬unk<=cap:=fun h=>by rw[bI6 h]at hcu;cases hcu
    have hcap:cap=c'/\cap<unk:=by grind
    obtain⟨rfl,hcapu⟩:=hcap;cases hlc:Nat.ble len cap with
    |false=>grind
    |true=>
    rw[hlc,bJ6]at h;split at h
    ·cases h
    ·rename_i l hh m hbo
     obtain⟨a1,a2,a3,a4⟩:=D5 (P:=P) (cap:=cap) hbo h1 h2 h3 (bK2 _) hll true;have hr:=runs l hh (m.getD cap) a4;have hmu:m.getD cap-l<unk:=by omega
     cases hml:Nat.beq (m.getD cap) l with
     |true=>
      rw[hml,bJ6]at h;have hml:=bI4 hml;cases h;rw[bK1 hml]at hr;exact⟨σ,_,w,hr,Sg.gr_refl _ σ,.slice i o p _ _ _ hpi (.inl ⟨rfl,hmu⟩) (by omega),hw⟩
     |false=>
      rw[hml,bJ7]at h;have hml':m.getD cap≠l:=fun e=>by rw[e,t7 rfl]at hml;cases hml
      cases h;rw[bJ9 hml']at hr;exact⟨σ,_,w,hr,Sg.gr_refl _ σ,.slice i _ p _ _ _ hpi (.inl ⟨rfl,hmu⟩) (by omega),hw⟩
  ·cases h
 ·rename_i n e hu
  split at h
  ·cases h
  rename_i ie hie;split at h
  ·rename_i i o
   cases hx with
   |ptr _ _ p hpi=>
   cases hn:Nat.ble n 16777216 with
   |false=>grind
   |true=>
   rw[hn,bJ6]at h;have hn:=bI3 hn;split at h
   ·cases h
   ·rename_i l hh m hbo
    obtain⟨a1,a2,a3,a4⟩:=D5 (P:=P) (cap:=n) hbo h1 h2 h3 (bK2 _) (bK2 _) false;have hr:(Instr.sliceAt t (.pointer (some ⟨p.blk,p.dl+o,none⟩)) lo' hi' mx').run P w= .ok (.slice (some (if m.getD n=l then⟨p.blk,p.dl+o,none⟩else⟨p.blk,p.dl+(o+l*ie.size),none⟩)) (hh-l) (m.getD n-l)) w:=by
     simp only[Instr.sliceAt,bK8,bK3 hu,bK4,Instr.sureAddr,a4,sizeOf,typeInfo,bS1,hie,bL3]
     by_cases hml:m.getD n=l
     ·simp[hml]
     ·simp[hml,bR2,bN9]
    have hmu:m.getD n-l<unk:=by unfold unk;omega
    cases hml:Nat.beq (m.getD n) l with
    |true=>
     rw[hml,bJ6]at h;have hml:=bI4 hml;cases h;rw[bK1 hml]at hr;exact⟨σ,_,w,hr,Sg.gr_refl _ σ,.slice i o p _ _ _ hpi (.inl ⟨rfl,hmu⟩) (by omega),hw⟩
    |false=>
     rw[hml,bJ7]at h;have hml':m.getD n≠l:=fun e=>by rw[e,t7 rfl]at hml;cases hml
     cases h;rw[bJ9 hml']at hr;exact⟨σ,_,w,hr,Sg.gr_refl _ σ,.slice i _ p _ _ _ hpi (.inl ⟨rfl,hmu⟩) (by omega),hw⟩
  ·cases h
 ·cases h
end
end Go.Xe
end PartXm9
noncomputable section PartXmM
namespace Go.Xe
open Go.RowKit
section
variable {P :Program}{B:BS}{w0:World}{σ:Sg}{hp:Hp}{w:World}
def aF2 (hp : Hp) (it : Value) (isString : Bool) : Option (Value × Hp) :=
 match it,isString with
 | .pointer (some ⟨i, 0, none⟩), true => match hp.m.get i with
  | some (.sit s pos) => bif Nat.blt pos s.data.toList.length then
    some (.tuple #[.bool true,.int .i64 pos,.int .i32 (Utf8.decode s pos).1],{hp with m:=hp.m.set i (some (.sit s (pos+(Utf8.decode s pos).2)))})
   else some (.tuple #[.bool false],hp)
  |_=>none
 |_,_=>none
theorem VR.tup1 {σ:Sg}{a b:Value}(h:VR σ a b):VR σ (.tuple #[a]) (.tuple #[b]):=(VRL.cons h (VRL.nil σ)).to_tuple
theorem VR.tup2 {σ:Sg}{a b c d:Value}(h:VR σ a b)(k:VR σ c d):VR σ (.tuple #[a,c]) (.tuple #[b,d]):=(VRL.cons h (VRL.cons k (VRL.nil σ))).to_tuple
theorem VR.tup3 {σ:Sg}{a b c d e f:Value}(h:VR σ a b)(k:VR σ c d)(l:VR σ e f):VR σ (.tuple #[a,c,e]) (.tuple #[b,d,f]):=(VRL.cons h (VRL.cons k (VRL.cons l (VRL.nil σ)))).to_tuple
theorem J5 {r:Nat}{o:Obj}(h:w.heap[r]? =some o)(hc:∀c e f,o≠ .cells c e f):(getObj r).run P w= .ok o w:=by
 simp only[getObj,Sem.run,h]
theorem R4 {r:Nat}{o o':Obj}(h:w.heap[r]? =some o)(hc:∀c e f,o≠ .cells c e f):(setObj r o').run P w= .ok () {w with heap:=w.heap.setIfInBounds r o'}:=by
 simp only[setObj,Sem.run,h]
theorem HR.setO (h : HR B w0 σ hp w) {i : Nat} {b b' : Blk} (hg : hp.m.get i = some b) {p : Pl} (hpi : σ i = some p) {o : Obj} (hb : BR σ p b' o) (hro : S7 b = false := by rfl) (hro' : S7 b' = false := by rfl) :
  HR B w0 σ {hp with m:=hp.m.set i (some b')} {w with heap:=w.heap.setIfInBounds p.blk o}:=by
 obtain⟨p',o',g1,_,g4,_⟩:=h.live i b hg;have:p'=p:=bK5 (g1.symm.trans hpi);subst this;have hlt:=(bJ4.1 g4).1;refine h.turn hg hpi ?_ (fun k hk=>?_) (by simp) rfl rfl rfl hb hro hro'
 ·simp[hlt]
 ·grind
theorem aY5 {it it' v : Value} {isS : Bool} {hp' : Hp} (h : aF2 hp it isS = some (v, hp')) (hi : VR σ it it') (hw : HR B w0 σ hp w) (ty : TypeId) :
  MOK hp B w0 σ v hp' ((Instr.next it' isS ty).run P w):=by
 unfold aF2 at h;split at h
 ·rename_i i
  cases hi with
  |ptr _ _ p hpi=>
  split at h
  ·rename_i s pos hg
   obtain⟨p',o,g1,g2,g3,g4,g5⟩:=hw.live i _ hg;have:p'=p:=bK5 (g1.symm.trans hpi);subst this;subst g4;have hget:=J5 (P:=P) g3 (fun c e f h=>by cases h)
   cases hlt:Nat.blt pos s.data.toList.length with
   |true=>
    rw[hlt,bJ6]at h;cases h;have hpos:pos<s.size:=by simp_all
    have hset:=R4 (P:=P) (o':= .stringIter s (pos+(Utf8.decode s pos).2)) g3 (fun c e f h=>by cases h)
    refine⟨σ,_,_,?_,Sg.gr_refl _ σ,VR.tup3 (.bool true) (.int .i64 pos) (.int .i32 _),hw.setO hg g1 (b':= .sit s (pos+(Utf8.decode s pos).2)) ⟨rfl,g5⟩⟩;simp[Instr.next,g5,hget,hpos,hset,goInt]
   |false=>
    rw[hlt,bJ7]at h;cases h;have hpos:¬pos<s.size:=by
     intro hc;rw[show Nat.blt pos s.data.toList.length=true from bI6 (by simp;omega)]at hlt
     cases hlt
    refine⟨σ,_,w,?_,Sg.gr_refl _ σ,VR.tup1 (.bool false),hw⟩;simp[Instr.next,g5,hget,hpos]
  ·cases h
 ·cases h
def aZ0 (kind:TypeDesc)(a b:Value):Option Bool:=
 match kind,a,b with
 | .int _,.int k x,.int k' y=>bif decide (k=k')then some (decide (x=y))else none
 | .string,.string x,.string y=>some (x.data.toList==y.data.toList)
 | .bool,.bool x,.bool y=>some (x==y)
 |_,_,_=>none
theorem aw0 {kind : TypeDesc} {a b a' b' : Value} {r : Bool} (h : aZ0 kind a b = some r) (ha : VR σ a a') (hb : VR σ b b') :
  Instr.sameNow kind a' b'=some r/\(r=true->a=b/\Instr.sameBits 10000 b' a'=true):=by
 unfold aZ0 at h;split at h
 ·rename_i k0 k x k' y
  cases ha;cases hb;cases hk:decide (k=k')with
  |false=>grind
  |true=>
   rw[hk]at h;simp only[bK0]at hk;subst hk;simp only[bJ6,bH9]at h;subst h;refine⟨?_,fun hr=>?_⟩
   ·simp only[Instr.sameNow,bR1];congr 1
   ·simp only[bK0]at hr
    subst hr;exact⟨rfl,by simp[Instr.sameBits]⟩
 ·rename_i x y
  cases ha;cases hb;cases h;have e:(x==y)=(x.data.toList==y.data.toList):=by rw[beq_toListBytes,bS2,bS2]
  refine⟨by simp only[Instr.sameNow,e],fun hr=>?_⟩
  have hxy:x=y:=by
   obtain⟨⟨x⟩⟩:=x
   simp_all
  subst hxy;exact⟨rfl,by simp only[Instr.sameBits,e,hr]⟩
 ·rename_i x y
  cases ha;cases hb;cases h;refine⟨rfl,fun hr=>?_⟩
  have hxy:x=y:=by grind
  subst hxy;exact⟨rfl,by simp[Instr.sameBits]⟩
 ·cases h
def av5 (kind:TypeDesc)(k:Value):List (Value×Value)->Nat->Option (Option (Nat×Value))
 | [],_=>some none
 |e::es,i=>match aZ0 kind k e.1 with
  |some true=>some (some (i,e.2))
  |some false=>av5 kind k es (i+1)
  |none=>none
theorem av6 {kind : TypeDesc} {k k' : Value} (hk : VR σ k k') : ∀ {es : List (Value × Value)} {ents : List MapEntry} {i : Nat} {r : Option (Nat × Value)}, av5 kind k es i = some r →
  es.length=ents.length->(∀(j:Nat) x e,es[j]? =some x->ents[j]? =some e->VR σ x.1 e.key/\VR σ x.2 e.val)->
  (r=none->Instr.findNow kind k' ents i=some none)/\
  (∀n v,r=some (n,v)->i<=n/\ ∃u x e,Instr.findNow kind k' ents i=some (some (n,u))/\VR σ v u/\es[n-i]? =some x/\ents[n-i]? =some e/\x=(k,v)/\Instr.sameBits 10000 e.key k'=true)
 | [],ents,i,r,h,hl,_=>by
  simp only[av5,bH9]at h;subst h;have:ents=[]:=bI5 hl.symm;subst this;exact⟨fun _=>rfl,(fun n v h=>by cases h)⟩
 |x::es,[],i,r,h,hl,_=>by simp at hl
 |x::es,e::ents,i,r,h,hl,hr=>by
  obtain⟨h1,h2⟩:=hr 0 x e rfl rfl;simp only[av5]at h;split at h
  ·rename_i hs
   obtain⟨s1,s2⟩:=aw0 hs hk h1;obtain⟨s3,s4⟩:=s2 rfl;cases h;refine⟨(fun h=>by cases h),fun n v h=>?_⟩
   cases h;exact⟨bK2 _,e.val,x,e,by simp only[Instr.findNow,s1],h2,by simp,by simp,by rw[s3],s4⟩
  ·rename_i hs
   obtain⟨s1,_⟩:=aw0 hs hk h1;obtain⟨i1,i2⟩:=av6 (ents:=ents) hk h (by simpa using hl) (fun j x' e' hx he=>hr (j+1) x' e' (by simpa using hx) (by simpa using he))
   refine⟨fun hn=>by simp only[Instr.findNow,s1];exact i1 hn,fun n v hnv=>?_⟩
   obtain⟨j1,u,x',e',j2,j3,j4,j5,j6⟩:=i2 n v hnv;refine⟨by omega,u,x',e',by simp only[Instr.findNow,s1];exact j2,j3,?_,?_,j6⟩
   ·grind
   ·grind
  ·cases h
def aM3 (d:TypeDesc):Bool:=
 match d with
 | .int _| .string| .bool=>true
 |_=>false
theorem aN5 {t:TypeId}{d:TypeDesc}(hu:P.underlying t=some d)(hk:aM3 d=true)(b:Bool)(v:Value):(Instr.checkKey b 10000 t v).run P w= .ok () w:=by
 show(Instr.checkKey b (9999+1) t v).run P w= .ok () w;unfold Instr.checkKey;simp only[bK8,bK3 hu,bK4];cases d<;>simp[aM3]at hk<;>rfl
def ai3 (P:Program)(cs:List Value):List Field->Bool
 | []=>true
 |f::fs=>match P.underlying f.type,X6 P f.type cs f.offset with
  |some d,some _=>aM3 d&&ai3 P cs fs
  |_,_=>false
def aF8 :List Value->List Value->Bool
 | [],[]=>true
 | .int k x::xs,.int k' y::ys=>decide (k=k')&&decide (x=y)&&aF8 xs ys
 | .bool x::xs,.bool y::ys=>(x==y)&&aF8 xs ys
 | .string x::xs,.string y::ys=>(x.data.toList==y.data.toList)&&aF8 xs ys
 |_,_=>false
def xsb (a b:Value):Bool:=
 match a,b with
 | .agg xs,.agg ys=>aF8 xs.toList ys.toList
 |_,_=>false
theorem bf4 : ∀ {xs ys xs' ys' : List Value}, aF8 xs ys = true → VRL σ xs xs' → VRL σ ys ys' →
  xs'.length=ys'.length/\(xs'.zip ys').all (fun p=>Instr.sameBits 9999 p.1 p.2)=true:=by
 intro xs
 induction xs with
 |nil=>
  intro ys xs' ys' h hx hy;cases ys with
  |nil=>rw[hx.unnil,hy.unnil];exact⟨rfl,rfl⟩
  |cons y ys=>simp[aF8]at h
 |cons x xs ih=>
  intro ys xs' ys' h hx hy;cases ys with
  |nil=>cases x<;>simp[aF8]at h
  |cons y ys=>
   obtain⟨x',xs',rfl,hx1,hx2⟩:=hx.uncons;obtain⟨y',ys',rfl,hy1,hy2⟩:=hy.uncons;unfold aF8 at h;split at h
   ·grind
   ·rename_i k a _ k' b _ e1 e2
    simp only[bO8]at e1 e2;obtain⟨rfl,rfl⟩:=e1;obtain⟨rfl,rfl⟩:=e2;simp only[bI0,bK0]at h;obtain⟨⟨rfl,rfl⟩,h⟩:=h;obtain⟨l1,l2⟩:=ih h hx2 hy2;cases hx1;cases hy1;exact⟨by simp[l1],by simp only[List.zip_cons_cons,List.all_cons,l2,bQ7];simp[Instr.sameBits]⟩
   ·rename_i a _ b _ e1 e2
    simp only[bO8]at e1 e2;obtain⟨rfl,rfl⟩:=e1;obtain⟨rfl,rfl⟩:=e2;simp only[bI0]at h;obtain⟨h1,h⟩:=h;obtain⟨l1,l2⟩:=ih h hx2 hy2;cases hx1;cases hy1;exact⟨by simp[l1],by simp only[List.zip_cons_cons,List.all_cons,l2,bQ7];simpa [Instr.sameBits]using h1⟩
   ·rename_i a _ b _ e1 e2
    simp only[bO8]at e1 e2;obtain⟨rfl,rfl⟩:=e1;obtain⟨rfl,rfl⟩:=e2;simp only[bI0]at h;obtain⟨h1,h⟩:=h;obtain⟨l1,l2⟩:=ih h hx2 hy2;cases hx1;cases hy1;have e:(a==b)=(a.data.toList==b.data.toList):=by rw[beq_toListBytes,bS2,bS2]
    exact⟨by simp[l1],by simp only[List.zip_cons_cons,List.all_cons,l2,bQ7];simp only[Instr.sameBits,e,h1]⟩
   ·cases h
theorem bq9 {a b a' b':Value}(h:xsb a b=true)(ha:VR σ a a')(hb:VR σ b b'):Instr.sameBits 10000 a' b'=true:=by
 unfold xsb at h;split at h
 ·obtain⟨xs',rfl,hx⟩:=VRL.of_agg ha
  obtain⟨ys',rfl,hy⟩:=VRL.of_agg hb;obtain⟨l1,l2⟩:=bf4 h hx hy;show Instr.sameBits (9999+1) _ _=true;simp only[Instr.sameBits,bI0,beq_iff_eq]
  grind
 ·cases h
def aa3 (P:Program)(kt:TypeId)(k:Value):List (Value×Value)->Nat->Option (Option (Nat×Value))
 | [],_=>some none
 |e::es,i=>match xeq P 10000 kt k e.1 with
  |some true=>bif xsb e.1 k then some (some (i,e.2))else none
  |some false=>aa3 P kt k es (i+1)
  |none=>none
def R8 (P:Program)(kt:TypeId)(d:TypeDesc)(k:Value)(es:List (Value×Value)):Option (Option (Nat×Value)):=
 match d with
 | .struct fs=>match k with
  | .agg cs=>bif ai3 P cs.toList fs.toList then aa3 P kt k es 0 else none
  |_=>none
 |d=>bif aM3 d then av5 d k es 0 else none
theorem ao9 {kt : TypeId} {k k' : Value} (hk : VR σ k k') (w : World) : ∀ {es : List (Value × Value)} {ents : List MapEntry} {i : Nat} {r : Option (Nat × Value)}, aa3 P kt k es i = some r →
  es.length=ents.length->(∀(j:Nat) x e,es[j]? =some x->ents[j]? =some e->VR σ x.1 e.key/\VR σ x.2 e.val)->
  (r=none->(Instr.findAsking kt k' ents i).run P w= .ok none w)/\
  (∀n v,r=some (n,v)->i<=n/\ ∃u x e,(Instr.findAsking kt k' ents i).run P w= .ok (some (n,u)) w/\VR σ v u/\es[n-i]? =some x/\ents[n-i]? =some e/\Instr.sameBits 10000 e.key k'=true)
 | [],ents,i,r,h,hl,_=>by
  simp only[aa3,bH9]at h;subst h;have:ents=[]:=bI5 hl.symm;subst this;exact⟨fun _=>by simp[Instr.findAsking],(fun n v h=>by cases h)⟩
 |x::es,[],i,r,h,hl,_=>by simp at hl
 |x::es,e::ents,i,r,h,hl,hr=>by
  obtain⟨h1,h2⟩:=hr 0 x e rfl rfl;simp only[aa3]at h;split at h
  ·rename_i hs
   have s1:(Op.equal kt k' e.key).run P w= .ok true w:=as7 10000 kt k x.1 true hs k' e.key hk h1 w;cases hb:xsb x.1 k with
   |false=>grind
   |true=>
   rw[hb,bJ6]at h;cases h;refine⟨(fun h=>by cases h),fun n v h=>?_⟩
   cases h;exact⟨bK2 _,e.val,x,e,by simp only[Instr.findAsking,bK8,s1,bK4,bR1,bL3],h2,by simp,by simp,bq9 hb h1 hk⟩
  ·rename_i hs
   have s1:(Op.equal kt k' e.key).run P w= .ok false w:=as7 10000 kt k x.1 false hs k' e.key hk h1 w;obtain⟨i1,i2⟩:=ao9 (ents:=ents) hk w h (by simpa using hl) (fun j x' e' hx he=>hr (j+1) x' e' (by simpa using hx) (by simpa using he))
   have step:(Instr.findAsking kt k' (e::ents) i).run P w=(Instr.findAsking kt k' ents (i+1)).run P w:=by
    simp only[Instr.findAsking,bK8,s1,bK4,bP1,bR0]
   grind
  ·cases h
theorem aG0 {t : TypeId} {fs : Array Field} (hu : P.underlying t = some (.struct fs)) {cs : List Value} {cs' : Array Value} (hc : VRL σ cs cs'.toList) (hk : ai3 P cs fs.toList = true) (b : Bool) (w : World) :
  (Instr.checkKey b 10000 t (.agg cs')).run P w= .ok () w:=by
 have key : ∀ (l : List Field), ai3 P cs l = true → (forIn l PUnit.unit (fun f _ => do
   if f.name≠ "_" then Instr.checkKey b 9999 f.type (<-part f.type cs' f.offset)
   pure (ForInStep.yield PUnit.unit)):Sem PUnit).run P w= .ok PUnit.unit w:=by
  intro l
  induction l with
  |nil=>intro _;simp
  |cons f l ih=>
   intro hl;simp only[ai3]at hl;split at hl
   ·rename_i d v hd hp
    simp only[bI0]at hl;obtain⟨u,_,hu⟩:=O4 hp hc;have hck:∀v,(Instr.checkKey b 9999 f.type v).run P w= .ok () w:=by
     intro v;show(Instr.checkKey b (9998+1) f.type v).run P w= .ok () w;unfold Instr.checkKey;simp only[bK8,bK3 hd,bK4];have:=hl.1;cases d<;>simp[aM3]at this<;>rfl
    simp_all
   ·cases hl
 show(Instr.checkKey b (9999+1) t (.agg cs')).run P w= .ok () w;unfold Instr.checkKey;simp only[bK8,bK3 hu,bK4];have:=key fs.toList hk
 simp_all
theorem E2 {kt : TypeId} {d : TypeDesc} (hd : P.underlying kt = some d) {k k' : Value} (hk : VR σ k k') {es : List (Value × Value)} {ents : List MapEntry} {r : Option (Nat × Value)} (h : R8 P kt d k es = some r)
  (hl:es.length=ents.length) (hr:∀(j:Nat) x e,es[j]? =some x->ents[j]? =some e->VR σ x.1 e.key/\VR σ x.2 e.val) (w:World):
  (∀b,(Instr.checkKey b 10000 kt k').run P w= .ok () w)/\(r=none->(Instr.findKey kt k' ents).run P w= .ok none w)/\
  (∀n v,r=some (n,v)-> ∃u x e,(Instr.findKey kt k' ents).run P w= .ok (some (n,u)) w/\VR σ v u/\es[n]? =some x/\ents[n]? =some e/\Instr.sameBits 10000 e.key k'=true):=by
 unfold R8 at h;split at h
 ·rename_i fs
  split at h
  ·rename_i cs
   obtain⟨cs',rfl,hcs⟩:=VRL.of_agg hk;cases hb:ai3 P cs.toList fs.toList with
   |false=>grind
   |true=>
   rw[hb,bJ6]at h;obtain⟨f1,f2⟩:=ao9 hk w h hl hr;have hfk:(Instr.findKey kt (.agg cs') ents).run P w=(Instr.findAsking kt (.agg cs') ents 0).run P w:=by
    simp only[Instr.findKey,bK8,bK3 hd,bK4];cases ents with
    |nil=>simp[Instr.findNow,Instr.findAsking]
    |cons e ents=>simp[Instr.findNow,Instr.sameNow]
   refine⟨fun b=>aG0 hd hcs hb b w,fun hn=>by rw[hfk];exact f1 hn,fun n v hnv=>?_⟩
   grind
  ·cases h
 ·cases hkb:aM3 d with
  |false=>grind
  |true=>
   rw[hkb,bJ6]at h;obtain⟨f1,f2⟩:=av6 hk h hl hr;refine⟨fun b=>aN5 hd hkb b k',fun hn=>?_,fun n v hnv=>?_⟩
   ·simp only[Instr.findKey,bK8,bK3 hd,bK4,f1 hn,bL3]
   ·obtain⟨_,u,x,e,g1,g2,g3,g4,_,g5⟩:=f2 n v hnv
    rw[bQ1]at g3 g4;exact⟨u,x,e,by simp only[Instr.findKey,bK8,bK3 hd,bK4,g1,bL3],g2,g3,g4,g5⟩
def D8 (P : Program) (hp : Hp) (t : TypeId) (x k : Value) (ok : Bool) : Option Value :=
 match P.underlying t with
 | some (.map kt et) => match P.underlying kt with
  | some d =>
    match(match x with
     | .map none=>some []
     | .map (some i)=>match hp.m.get i with
      |some (.map es _)=>some es
      |_=>none
     |_=>none)with
    |none=>none
    |some es=>match R8 P kt d k es with
     |some (some (_,v))=>some (bif ok then .tuple #[v,.bool true]else v)
     |some none=>match I3 P et with
      |some z=>some (bif ok then .tuple #[z,.bool false]else z)
      |none=>none
     |none=>none
  |none=>none
 |_=>none
theorem aG9 {t : TypeId} {x x' k k' v : Value} {ok : Bool} (h : D8 P hp t x k ok = some v) (hx : VR σ x x') (hk : VR σ k k') (hw : HR B w0 σ hp w) :
  ∃u,VR σ v u/\(Instr.lookup t x' k' ok).run P w= .ok u w:=by
 unfold D8 at h;split at h
 ·rename_i kt et hu
  split at h
  ·rename_i d hd
   have main : ∀ (es : List (Value × Value)) (ents : List MapEntry), es.length = ents.length → (∀ (j : Nat) x e, es[j]? = some x → ents[j]? = some e → VR σ x.1 e.key ∧ VR σ x.2 e.val) →
     (match R8 P kt d k es with
      |some (some (_,v))=>some (bif ok then .tuple #[v,.bool true]else v)
      |some none=>match I3 P et with
       |some z=>some (bif ok then .tuple #[z,.bool false]else z)
       |none=>none
      |none=>none)=some v->
     (∀b,(Instr.checkKey b 10000 kt k').run P w= .ok () w)/\ ∃u,VR σ v u/\(do
      let(v,ok')<-match<-Instr.findKey kt k' ents with
       |some (_,v)=>pure (v,true)
       |none=>pure (<-zeroValue et,false)
      pure (if ok then .tuple #[v,.bool ok']else v):Sem Value).run P w= .ok u w:=by
    intro es ents hl hr h;split at h
    ·rename_i n v0 hf
     obtain⟨hck,_,f3⟩:=E2 hd hk hf hl hr w;obtain⟨u,x1,e1,hfk,f2,_⟩:=f3 n v0 rfl;cases h;refine⟨hck,if ok then .tuple #[u,.bool true]else u,?_,?_⟩
     ·cases ok
      ·exact f2
      ·exact VR.tup2 f2 (.bool true)
     ·simp_all
    ·rename_i hf
     obtain⟨hck,f2,_⟩:=E2 hd hk hf hl hr w;have hfk:=f2 rfl;split at h
     ·rename_i z hz
      obtain⟨hc,hzr⟩:=H3 hz;cases h;refine⟨hck,if ok then .tuple #[z,.bool false]else z,?_,?_⟩
      ·cases ok
       ·exact O5 σ hc
       ·exact VR.tup2 (O5 σ hc) (.bool false)
      ·simp_all
     ·cases h
    ·cases h
   split at h
   ·cases h
   ·rename_i es hes
    split at hes
    ·simp only[bH9]at hes
     subst hes;cases hx;obtain⟨hck,u,h1,h2⟩:=main [] [] rfl (fun j x e hx=>by simp at hx) h
     refine⟨u,h1,?_⟩;simp only[Instr.lookup,bK8,bK3 hu,bK4,bL3,hck]
     simp_all;omega
    ·rename_i i
     split at hes
     ·rename_i es' reg' hg
      simp only[bH9]at hes;subst hes;cases hx with
      |map _ p hpi=>
      obtain⟨p',o,g1,_,g3,ents,clock,rfl,g4,g5,g6⟩:=hw.live i _ hg;have:p'=p:=bK5 (g1.symm.trans hpi);subst this;have hget:=J5 (P:=P) g3 (fun c e f h=>by cases h)
      obtain⟨hck,u,h1,h2⟩:=main es' ents.toList (by simpa using g4.symm) (fun j x e hx he=>g5 j x e hx (by simpa using he)) h
      refine⟨u,h1,?_⟩;simp only[Instr.lookup,bK8,bK3 hu,bK4,hget,bL3,hck]
      simp_all;omega
     ·cases hes
    ·cases hes
  ·cases h
 ·cases h
def U5 (P : Program) (hp : Hp) (t : TypeId) (m k x : Value) : Option Hp :=
 match P.underlying t with
 | some (.map kt _) => match P.underlying kt with
  | some d =>
    match m with
    | .map (some i)=>match hp.m.get i with
     |some (.map es reg)=>match R8 P kt d k es with
      |some (some (n,_))=>some {hp with m:=hp.m.set i (some (.map (es.set n (k,x)) reg))}
      |some none=>some {hp with m:=hp.m.set i (some (.map (es++ [(k,x)]) reg))}
      |none=>none
     |_=>none
    |_=>none
  |none=>none
 |_=>none
theorem ai4 {t : TypeId} {m m' k k' x x' : Value} {hp' : Hp} (h : U5 P hp t m k x = some hp') (hm : VR σ m m') (hk : VR σ k k') (hx : VR σ x x') (hw : HR B w0 σ hp w) :
  ∃w',(Instr.mapUpdate t m' k' x').run P w= .ok () w'/\HR B w0 σ hp' w'/\hp'.nx=hp.nx:=by
 unfold U5 at h;split at h
 ·rename_i kt et hu
  split at h
  ·rename_i d hd
   split at h
   ·rename_i i
    cases hm with
    |map _ p hpi=>
    split at h
    ·rename_i es reg hg
     obtain⟨p',o,g1,_,g3,ents,clock,rfl,g4,g5,g6⟩:=hw.live i _ hg;have:p'=p:=bK5 (g1.symm.trans hpi);subst this;have hget:=J5 (P:=P) g3 (fun c e f h=>by cases h)
     have hset:=fun o'=>R4 (P:=P) (o':=o') g3 (fun c e f h=>by cases h)
     have hl:es.length=ents.toList.length:=by grind
     have hr:∀(j:Nat) x e,es[j]? =some x->ents.toList[j]? =some e->VR σ x.1 e.key/\VR σ x.2 e.val:=fun j x e hx he=>g5 j x e hx (by simpa using he)
     split at h
     ·rename_i n v0 hf
      obtain⟨hck,_,f0⟩:=E2 hd hk hf hl hr w;obtain⟨u,x1,e1,hfk,f2,f3,f4,f6⟩:=f0 n v0 rfl;have he1:ents[n]? =some e1:=by grind
      cases h;have hks:(Instr.keyThatStays e1.key k').run P w= .ok k' w:=by
       simp only[Instr.keyThatStays,f6,bR1,bL3]
      refine⟨_,?_,hw.setO hg g1 (b':= .map (es.set n (k,x)) reg) (o:= .map (ents.modify n fun e=> {e with key:=k',val:=x'}) clock) ⟨_,_,rfl,by simp[g4],fun j y e hy he=>?_,fun hreg=>?_⟩,rfl⟩
      ·simp only[Instr.mapUpdate,bK8,bK3 hu,bK4,hget,hck,hfk,he1,bM4,bM1,hks,hset]
      ·grind
      ·grind
     ·rename_i hf
      obtain⟨hck,f0,_⟩:=E2 hd hk hf hl hr w;have hfk:=f0 rfl;cases h;refine⟨_,?_,hw.setO hg g1 (b':= .map (es++ [(k,x)]) reg) (o:= .map (ents.push {key:=k',val:=x',born:=clock}) (clock+1)) ⟨_,_,rfl,by simp[g4],fun j y e hy he=>?_,fun hreg=>?_⟩,rfl⟩
      ·simp only[Instr.mapUpdate,bK8,bK3 hu,bK4,hget,hck,hfk,hset]
      ·grind
      ·grind
     ·cases h
    ·cases h
   ·cases h
  ·cases h
 ·cases h
def H7 (P : Program) (hp : Hp) (t : TypeId) (m k : Value) : Option (Value × Hp) :=
 match P.underlying t with
 | some (.map kt et) => match P.underlying kt with
  | some d =>
    match m with
    | .map (some i)=>match hp.m.get i with
     |some (.map es true)=>match R8 P kt d k es with
      |some (some (n,v))=>match es[n]? with
       |some y=>some (.tuple #[v,.int .i64 n],{hp with m:=hp.m.set i (some (.map (es.set n (k,y.2)) true))})
       |none=>none
      |some none=>match I3 P et with
       |some z=>some (.tuple #[z,.int .i64 es.length],{hp with m:=hp.m.set i (some (.map (es++ [(k,z)]) true))})
       |none=>none
      |none=>none
     |_=>none
    |_=>none
  |none=>none
 |_=>none
theorem ax1 {t : TypeId} {m m' k k' v : Value} {hp' : Hp} (h : H7 P hp t m k = some (v, hp')) (hm : VR σ m m') (hk : VR σ k k') (hw : HR B w0 σ hp w) :
  MOK hp B w0 σ v hp' ((Instr.mapEntry t m' k').run P w):=by
 unfold H7 at h;split at h
 ·rename_i kt et hu
  split at h
  ·rename_i d hd
   split at h
   ·rename_i i
    cases hm with
    |map _ p hpi=>
    split at h
    ·rename_i es hg
     obtain⟨p',o,g1,_,g3,ents,clock,rfl,g4,g5,g6⟩:=hw.live i _ hg;have:p'=p:=bK5 (g1.symm.trans hpi);subst this;obtain⟨c1,c2⟩:=g6 rfl;have hget:=J5 (P:=P) g3 (fun c e f h=>by cases h)
     have hset:=fun o'=>R4 (P:=P) (o':=o') g3 (fun c e f h=>by cases h)
     have hl:es.length=ents.toList.length:=by grind
     have hr:∀(j:Nat) x e,es[j]? =some x->ents.toList[j]? =some e->VR σ x.1 e.key/\VR σ x.2 e.val:=fun j x e hx he=>g5 j x e hx (by simpa using he)
     split at h
     ·rename_i n v0 hf
      obtain⟨hck,_,f0⟩:=E2 hd hk hf hl hr w;obtain⟨u,x1,e1,hfk,f2,f3,f4,f6⟩:=f0 n v0 rfl;have he1:ents[n]? =some e1:=by grind
      rw[f3]at h;cases h;have hks:(Instr.keyThatStays e1.key k').run P w= .ok k' w:=by
       simp only[Instr.keyThatStays,f6,bR1,bL3]
      refine⟨σ,.tuple #[u,goInt e1.born],_,?_,Sg.gr_refl _ σ,?_,hw.setO hg g1 (b':= .map (es.set n (k,x1.2)) true) (o:= .map (ents.modify n fun e=> {e with key:=k'}) clock) ⟨_,_,rfl,by simp[g4],fun j y e hy he=>?_,fun _=>?_⟩⟩
      ·simp only[Instr.mapEntry,bK8,bK3 hu,bK4,hget,hck,hfk,he1,bM4,bM1,hks,hset,bL3]
      ·rw[c2 n e1 he1]
       exact VR.tup2 f2 (.int _ _)
      ·grind
      ·grind
     ·rename_i hf
      obtain⟨hck,f0,_⟩:=E2 hd hk hf hl hr w;have hfk:=f0 rfl;split at h
      ·rename_i z hz
       obtain⟨hc,hzr⟩:=H3 hz;cases h;refine⟨σ,.tuple #[z,goInt clock],_,?_,Sg.gr_refl _ σ,?_,hw.setO hg g1 (b':= .map (es++ [(k,z)]) true) (o:= .map (ents.push {key:=k',val:=z,born:=clock}) (clock+1)) ⟨_,_,rfl,by simp[g4],fun j y e hy he=>?_,fun _=>?_⟩⟩
       ·simp only[Instr.mapEntry,bK8,bK3 hu,bK4,hget,hck,hfk,hzr,hset,bL3]
       ·rw[c1,g4]
        exact VR.tup2 (O5 σ hc) (.int _ _)
       ·rw[List.getElem?_append]at hy
        rw[Array.getElem?_push]at he
        by_cases hj:j<es.length
        ·grind
        ·rw[bJ9 hj]at hy
         have hj2:j-es.length=0:=by grind
         rw[hj2]at hy;simp only[bJ5,bH9]at hy;rw[bK1 (by omega)]at he
         simp only[bH9]at he;subst hy;subst he;exact⟨hk,O5 σ hc⟩
       ·grind
      ·cases h
     ·cases h
    ·cases h
   ·cases h
  ·cases h
 ·cases h
def K4 (hp:Hp)(m s x:Value):Option Hp:=
 match m,s with
 | .map (some i),.int _ (.ofNat n)=>match hp.m.get i with
  |some (.map es true)=>match es[n]? with
   |some y=>some {hp with m:=hp.m.set i (some (.map (es.set n (y.1,x)) true))}
   |none=>none
  |_=>none
 |_,_=>none
theorem ao6 {t : TypeId} {m m' s s' x x' : Value} {hp' : Hp} (h : K4 hp m s x = some hp') (hm : VR σ m m') (hs : VR σ s s') (hx : VR σ x x') (hw : HR B w0 σ hp w) :
  ∃w',(Instr.entryStore t m' s' x').run P w= .ok () w'/\HR B w0 σ hp' w'/\hp'.nx=hp.nx:=by
 unfold K4 at h;split at h
 ·rename_i i kd n
  cases hm with
  |map _ p hpi=>
  cases hs;split at h
  ·rename_i es hg
   obtain⟨p',o,g1,_,g3,ents,clock,rfl,g4,g5,g6⟩:=hw.live i _ hg;have:p'=p:=bK5 (g1.symm.trans hpi);subst this;obtain⟨c1,c2⟩:=g6 rfl;have hget:=J5 (P:=P) g3 (fun c e f h=>by cases h)
   have hset:=fun o'=>R4 (P:=P) (o':=o') g3 (fun c e f h=>by cases h)
   split at h
   ·rename_i y hy
    cases h;have hn:n<ents.size:=by grind
    have he1:ents[n]? =some ents[n]:=by simp[hn]
    have hfi:ents.findIdx? (fun e=>(e.born:Int)==Int.ofNat n)=some n:=by
     rw[Array.findIdx?_eq_some_iff_getElem];refine⟨hn,?_,fun j hj=>?_⟩
     ·grind
     ·have:=c2 j ents[j] (by simp[show j<ents.size by omega])
      grind
    refine⟨_,?_,hw.setO hg g1 (b':= .map (es.set n (y.1,x)) true) (o:= .map (ents.modify n fun e=> {e with val:=x'}) clock) ⟨_,_,rfl,by simp[g4],fun j z e hz he=>?_,fun _=>?_⟩,rfl⟩
    ·simp only[Instr.entryStore,bK8,bK4,hget,asInt,asIntOf,bL3,hfi,hset]
    ·grind
    ·grind
   ·cases h
  ·cases h
 ·cases h
def U4 (hp:Hp)(P:Program)(t:TypeId)(x:Value):Option Value:=
 match P.underlying t,x with
 |some (.map _ _),.map (some i)=>match hp.m.get i with
  |some (.map es _)=>some (.int .i64 es.length)
  |_=>none
 |_,_=>ax0 P t x
theorem aY3 {t : TypeId} {x x' v : Value} (h : U4 hp P t x = some v) (hx : VR σ x x') (hw : HR B w0 σ hp w) (ty : TypeId) (ats : Array TypeId) (hat : ats[0]? = some t) :
  VR σ v v/\(Builtin.len_ ats ty #[x']).run P w= .ok v w:=by
 unfold U4 at h;split at h
 ·rename_i kt et i hu
  split at h
  ·rename_i es hg
   cases h;cases hx with
   |map _ p hpi=>
   obtain⟨p',o,g1,_,g3,ents,clock,rfl,g4,g5,g6⟩:=hw.live i _ hg;have:p'=p:=bK5 (g1.symm.trans hpi);subst this;have hget:=J5 (P:=P) g3 (fun c e f h=>by cases h)
   refine⟨.int _ _,?_⟩;simp[Builtin.len_,hat,bK3 hu,hget,goInt,g4]
  ·cases h
 ·exact⟨(aE8 (P:=P) h hx ty ats hat).1,(aE8 (P:=P) h hx ty ats hat).2 w⟩
end
end Go.Xe
end PartXmM
noncomputable section PartXmC
namespace Go.Xe
open Go.RowKit
def U6 (f:Value->Value->Bool):List Value->List Value->Bool
 | [],[]=>true
 |x::xs,y::ys=>f x y&&U6 f xs ys
 |_,_=>false
theorem Y0 {f:Value->Value->Bool}(hf:∀x y,f x y=true->x=y):∀ {xs ys:List Value},U6 f xs ys=true->xs=ys
 | [],[],_=>rfl
 |x::xs,y::ys,h=>by
  simp only[U6,bI0]at h;rw[hf _ _ h.1,Y0 hf h.2]
 | [],_::_,h=>by cases h
 |_::_,[],h=>by cases h
def veq :Nat->Value->Value->Bool
 |0,_,_=>false
 |n+1,x,y=>match x,y with
  | .bool a,.bool b=>a==b
  | .int j a,.int k b=>decide (j=k)&&decide (a=b)
  | .string a,.string b=>a.data.toList==b.data.toList
  | .pointer a,.pointer b=>decide (a=b)
  | .slice a l c,.slice b l' c'=>decide (a=b)&&Nat.beq l l'&&Nat.beq c c'
  | .map a,.map b=>decide (a=b)
  | .nilFunc,.nilFunc=>true
  | .nilIface,.nilIface=>true
  | .iface t v,.iface u w=>Nat.beq t u&&veq n v w
  | .agg a,.agg b=>U6 (veq n) a.toList b.toList
  | .tuple a,.tuple b=>U6 (veq n) a.toList b.toList
  | .func f a c,.func g b d=>decide (f=g)&&U6 (veq n) a.toList b.toList&&U6 (veq n) c.toList d.toList
  | .complex f a b,.complex g c d=>decide (f=g)&&Nat.beq a c&&Nat.beq b d
  | .chan a,.chan b=>decide (a=b)
  |_,_=>false
theorem as2 :∀(n:Nat) (x y:Value),veq n x y=true->x=y:=by
 intro n
 induction n with
 |zero=>intro x y h;cases h
 |succ n ih=>
  intro x y h;simp only[veq]at h;split at h
  ·grind
  ·grind
  ·rename_i a b
   obtain⟨⟨a⟩⟩:=a
   simp_all
  ·grind
  ·simp_all
  ·grind
  ·rfl
  ·rfl
  ·simp only[bI0]at h;rw[bI4 h.1,ih _ _ h.2]
  ·rw[bQ0 (Y0 ih h)]
  ·rw[bQ0 (Y0 ih h)]
  ·simp only[bI0,bK0]at h;rw[h.1.1,bQ0 (Y0 ih h.1.2),bQ0 (Y0 ih h.2)]
  ·simp_all
  ·grind
  ·cases h
section
variable {P :Program}{B:BS}{w0:World}{σ:Sg}{hp:Hp}{w:World}
def as4 (P : Program) (hp : Hp) (t : TypeId) (x : Value) : Option (Value × Hp) :=
 match P.underlying t with
 | some (.slice e) => match x with
  | .slice none _ _=>some (.tuple #[],hp)
  | .slice (some _) 0 _=>some (.tuple #[],hp)
  | .slice (some ⟨i, o, none⟩) (n + 1) _ => match I3 P e with
   |none=>none
   | some z => match hp.m.get i with
    | some (.cells c k e' z') => bif Nat.ble (o + (xrep (n + 1) z.cells.toList).length) k && (xrep (n + 1) z.cells.toList).all Value.oneCell' then
      some (.tuple #[],at3 hp i c k e' z' o (xrep (n+1) z.cells.toList))
     else none
    |_=>none
  |_=>none
 |some (.map _ _)=>match x with
  | .map none=>some (.tuple #[],hp)
  | .map (some i)=>match hp.m.get i with
   |some (.map _ _)=>some (.tuple #[],{hp with m:=hp.m.set i (some (.map [] false))})
   |_=>none
  |_=>none
 |_=>none
theorem aP4 {t : TypeId} {x x' : Value} {v : Value} {hp' : Hp} (h : as4 P hp t x = some (v, hp')) (hx : VR σ x x') (hw : HR B w0 σ hp w) (ty : TypeId) :
  MOK hp B w0 σ v hp' ((Builtin.clear_ #[t] ty #[x']).run P w):=by
 have tup:VR σ (.tuple #[]) (.tuple #[]):=VRL.to_tuple (VRL.nil σ);unfold as4 at h;split at h
 ·rename_i e ht
  split at h
  ·simp only[bH9,bI1]at h
   obtain⟨rfl,rfl⟩:=h;cases hx;refine⟨σ,.tuple #[],w,?_,Sg.gr_refl _ σ,tup,hw⟩;simp[Builtin.clear_,bK3 ht]
  ·simp only[bH9,bI1]at h
   obtain⟨rfl,rfl⟩:=h;cases hx<;>exact⟨σ,.tuple #[],w,by simp[Builtin.clear_,bK3 ht],Sg.gr_refl _ σ,tup,hw⟩
  ·rename_i i o n c0
   split at h
   ·cases h
   rename_i z hz;split at h
   case h_2=>cases h
   rename_i c k e' z' hg;cases hx with
   |slice _ _ p _ _ c' hpi hcc hll=>
   obtain⟨k1,k2⟩:=hw.place hg hpi;cases hb:Nat.ble (o+(xrep (n+1) z.cells.toList).length) k&&(xrep (n+1) z.cells.toList).all Value.oneCell' with
   |false=>grind
   |true=>
    rw[hb,bJ6,H8]at h;simp only[bI0]at hb;have hin:=bI3 hb.1;cases h;obtain⟨hc,hzr⟩:=H3 hz;have hv:VRL σ (xrep (n+1) z.cells.toList) (xrep (n+1) z.cells.toList):=(O5 σ hc).cells.xrep (n+1);have hone:=hv.all_oneCell hb.2;obtain⟨w',hst,hh,_⟩:=hw.store (o:=o) hg hpi hv hone (by omega) (by omega) P
    have hcl:(Builtin.zeroCells z.cells (n+1)).toList=xrep (n+1) z.cells.toList:=af8 z.cells (n+1);refine⟨σ,.tuple #[],w',?_,Sg.gr_refl _ σ,tup,?_⟩
    ·simp[Builtin.clear_,bK3 ht,hzr,hcl,hst]
    ·grind
  ·cases h
 ·rename_i kt et ht
  split at h
  ·simp only[bH9,bI1]at h
   obtain⟨rfl,rfl⟩:=h;cases hx;refine⟨σ,.tuple #[],w,?_,Sg.gr_refl _ σ,tup,hw⟩;simp[Builtin.clear_,bK3 ht]
  ·rename_i i
   split at h
   case h_2=>cases h
   rename_i es reg hg;cases h;cases hx with
   |map _ p hpi=>
   obtain⟨p',o,g1,_,g3,ents,clock,rfl,g4,g5,g6⟩:=hw.live i _ hg;have:p'=p:=bK5 (g1.symm.trans hpi);subst this;have hget:=J5 (P:=P) g3 (fun c e f h=>by cases h)
   have hset:=R4 (P:=P) (o':= .map #[] clock) g3 (fun c e f h=>by cases h)
   refine⟨σ,.tuple #[],_,?_,Sg.gr_refl _ σ,tup,hw.setO hg g1 (b':= .map [] false) (o:= .map #[] clock) ⟨_,_,rfl,rfl,(fun j y e hy he=>by simp at hy),fun hr=>by cases hr⟩⟩
   simp[Builtin.clear_,bK3 ht,hget,hset]
  ·cases h
 ·cases h
def R6 (P : Program) (hp : Hp) (t u : TypeId) (s x : Value) : Option (Value × Hp) :=
 match P.underlying t,P.underlying u with
 | some (.slice e), some (.int _) => match P.info? e with
  |none=>none
  | some ie => match ie.zero with
   |none=>none
   | some z => match s, x with
    | .slice (some ⟨i, o, none⟩) sLen sCap, .int _ (.ofNat cnt) =>
     bif cst z && Nat.beq z.cells.toList.length ie.size && Nat.ble ie.bytes 1048576 && Nat.ble 1 ie.size && Nat.ble 1 cnt && Nat.ble (sLen + cnt) 67108864 &&
       (Nat.ble unk sCap&&Nat.ble 1 (C3 sCap)&&Nat.ble (C3 sCap) (sLen+cnt))then
      match hp.m.get i with
      | some (.cells c k _ _) => bif Nat.ble (o + sLen * ie.size) k then
        match n9 c o (sLen*ie.size)with
        |some olds=>some (.slice (some ⟨hp.nx,0,none⟩) (sLen+cnt) (c7 (sLen+cnt) 0),hp.new (olds++xrep cnt z.cells.toList) e ie.size)
        |none=>none
       else none
      |_=>none
     else none
    |_,_=>none
 |_,_=>none
theorem aD9 {t u : TypeId} {s s' x x' : Value} {v : Value} {hp' : Hp} (h : R6 P hp t u s x = some (v, hp')) (hs : VR σ s s') (hx : VR σ x x') (hw : HR B w0 σ hp w) (ty : TypeId) :
  MOK hp B w0 σ v hp' ((Builtin.append_ #[t,u] ty #[s',x']).run P w):=by
 unfold R6 at h;split at h
 case h_2=>cases h
 rename_i e ik ht hu;split at h
 ·cases h
 rename_i ie hie;split at h
 ·cases h
 rename_i z hz;split at h
 case h_2=>cases h
 rename_i i o sLen sCap kq cnt;cases hb : cst z && Nat.beq z.cells.toList.length ie.size && Nat.ble ie.bytes 1048576 && Nat.ble 1 ie.size && Nat.ble 1 cnt && Nat.ble (sLen + cnt) 67108864 &&
       (Nat.ble unk sCap&&Nat.ble 1 (C3 sCap)&&Nat.ble (C3 sCap) (sLen+cnt))with
 |false=>grind
 |true=>
 rw[hb,bJ6]at h;simp only[bI0]at hb;obtain⟨⟨⟨⟨⟨⟨b1,b2⟩,b3⟩,b4⟩,b5⟩,b6⟩,⟨b7,b8⟩,b9⟩:=hb;have ez:z.cells.size=ie.size:=by simp_all
 have b3:=bI3 b3;have b4:=bI3 b4;have b5:=bI3 b5;have b6:=bI3 b6;have b7:=bI3 b7;have b8:=bI3 b8;have b9:=bI3 b9;split at h
 case h_2=>cases h
 rename_i c k e' z' hg;cases hok:Nat.ble (o+sLen*ie.size) k with
 |false=>grind
 |true=>
 rw[hok,bJ6]at h;have hok:=bI3 hok;split at h
 case h_2=>cases h
 rename_i olds hlo;cases h;cases hx;cases hs with
 |slice _ _ p _ _ c' hpi hcc hll=>
 have hlt:c'<sLen+cnt:=by grind
 obtain⟨us0,hv0,hlen0,hc0⟩:=hw.cells hg hok hlo hpi;have hr:=Lib.run_append_grow_zeros (P:=P) w t u ty e ie z kq ik ht hu hie hz (some ⟨p.blk,p.dl+o,none⟩) sLen c' us0
  (run_firstCells_some w.drew ie.size sLen _ sLen c' us0 hlen0 (fun j u hu=>(af3 (w:=w) (w':=w.drew) rfl _).trans (hc0 j u hu))) cnt (by omega) (by omega) hlt (by omega)
  (by have:=Nat.mul_le_mul (show cnt<=67108864 by omega) b3;omega) (growslice_fits hlt (by have:=Nat.mul_le_mul b6 b3;omega))
 have hzc:(Builtin.zeroCells z.cells cnt).toList=xrep cnt z.cells.toList:=af8 z.cells cnt;have hvz:VRL σ (xrep cnt z.cells.toList) (Builtin.zeroCells z.cells cnt).toList:=by rw[hzc];exact(O5 σ b1).cells.xrep cnt
 have hcat:=hv0.append hvz;have hge:=grownCap_ge w (sLen+cnt) c' e;have hgr:=hw.grown hcat (Builtin.zeroCells z.cells (grownCap w (sLen+cnt) c' e-(sLen+cnt))) (fill .e 0 (olds++xrep cnt z.cells.toList)) (fun j hj=>B6 _ j hj) e ie.size
 have hul:(us0++(Builtin.zeroCells z.cells cnt).toList).length=(sLen+cnt)*ie.size:=by
  rw[bK6,hlen0,Array.length_toList,size_zeroCells,ez,bL5]
 rw[show(us0++(Builtin.zeroCells z.cells cnt).toList).toArray=us0.toArray++Builtin.zeroCells z.cells cnt by apply bQ0;simp]at hgr
 refine⟨_,_,_,hr,hw.le_new _,VR.unkSlice σ hp.nx ⟨w.heap.size,0,(us0++(Builtin.zeroCells z.cells cnt).toList).length+(Builtin.zeroCells z.cells (grownCap w (sLen+cnt) c' e-(sLen+cnt))).size,ie.size⟩ rfl hge ?_,?_⟩
 ·show grownCap w (sLen+cnt) c' e*ie.size<=(us0++(Builtin.zeroCells z.cells cnt).toList).length+_
  rw[size_zeroCells,hul,ez,<-bL5]
  grind
 ·simpa [Hp.new]using hgr
def bF0 (P:Program)(g:FuncId)(t:TypeId):Prop:=
 ∃fn r,P.funcs[g]? =some fn/\(fn.name== "runtime.NumGoroutine")=false/\fn.body.isNone=true/\Extern.findNext fn=none/\Extern.find fn=some (Extern.SlicesOverlaps.overlaps #[t,t] #[r])
def aY7 (P : Program) (hp : Hp) (t : TypeId) (args : List Value) : Option (Value × Hp) :=
 match P.underlying t with
 | some (.slice e) => match P.info? e with
  | some _ => match args with
   | [.slice (some ⟨i, _, none⟩) _ _, .slice (some ⟨j, _, none⟩) _ _] => bif Nat.beq i j then none else
     match hp.m.get i,hp.m.get j with
     |some (.cells _ _ _ _),some (.cells _ k _ _)=>bif Nat.ble 1 k then some (.bool false,hp)else none
     |_,_=>none
   |_=>none
  |none=>none
 |_=>none
def ai1 :TypeId:=4294967295
def isT :Option TypeId->Bool
 |some t=>Nat.beq t ai1
 |none=>false
def aZ8 (P:Program)(g:FuncId):Prop:=∀w,Calls P g #[] w fun e w'=>e= .returned (.bool true)/\Below w.heap.size w w'
def ai7 (P:Program)(g:FuncId)(t:TypeId):Prop:=(t=ai1/\aZ8 P g)\/(t≠ai1/\bF0 P g t)
theorem HR.below (h:HR B w0 σ hp w){w':World}(k:Below w.heap.size w w'):HR B w0 σ hp w':=by
 refine⟨k.os.trans h.os,k.tape.trans h.tape,k.output.trans h.output,bN7 h.size k.size,h.old,fun i hi=>?_,h.fresh,fun i b hg=>?_,h.inj⟩
 ·rw[k.block i (bN2 (h.old i hi) h.size)];exact h.kept i hi
 ·obtain⟨p,o,g1,g2,g3,g4⟩:=h.live i b hg
  exact⟨p,o,g1,g2,by rw[k.block p.blk (bJ4.1 g3).1];exact g3,g4⟩
theorem aY8 {g : FuncId} {t : TypeId} (ho : bF0 P g t) {args args' : List Value} {v : Value} {hp' : Hp} (h : aY7 P hp t args = some (v, hp')) (ha : VRL σ args args') (hw : HR B w0 σ hp w) :
  hp'=hp/\ ∃u,VR σ v u/\(callFunc g args'.toArray).run P w= .ok (.value u) w:=by
 unfold aY7 at h;split at h
 case h_2=>cases h
 rename_i e ht;split at h
 case h_2=>cases h
 rename_i ie hie;split at h
 case h_2=>cases h
 rename_i i o1 l1 c1 j o2 l2 c2;cases hij:Nat.beq i j with
 |true=>grind
 |false=>
 rw[hij,bJ7]at h;have hij':i≠j:=fun e=>by rw[e,t7 rfl]at hij;cases hij
 split at h
 case h_2=>cases h
 rename_i ci ki ei zi cj kj ej zj hgi hgj;cases hk:Nat.ble 1 kj with
 |false=>grind
 |true=>
 rw[hk,bJ6]at h;have hk:=bI3 hk;cases h;obtain⟨a1,r,rfl,ha1,hr⟩:=ha.uncons;obtain⟨a2,r,rfl,ha2,hr⟩:=hr.uncons;rw[hr.unnil]at*;cases ha1 with
 |slice _ _ p _ _ c1' hpi hc1 hl1=>
 cases ha2 with
 |slice _ _ q _ _ c2' hqj hc2 hl2=>
 obtain⟨fn,rt,f1,f2,f3,f4,f5⟩:=ho;have hne:p.blk≠q.blk:=hw.inj i j _ _ p q hgi hgj hij' hpi hqj;refine⟨rfl,.bool false,.bool false,?_⟩;obtain⟨p',C,g1,g2,g3,g4,g5,g6,g7⟩:=hw.liveC hgi;have:p'=p:=bK5 (g1.symm.trans hpi);subst this;obtain⟨q',D,m1,m2,m3,m4,m5,m6,m7⟩:=hw.liveC hgj;have:q'=q:=bK5 (m1.symm.trans hqj);subst this;have hsz:∀w,(Go.sizeOf e).run P w= .ok ie.size w:=fun w=>by simp[sizeOf,typeInfo,hie]
 rw[run_callFunc_extern f1 f2 f3 f4 f5];have hap:=Lib.run_overlaps_apart (P:=P) w t rt e ht ie.size hsz ⟨p'.blk,p'.dl+o1,none⟩ ⟨q'.blk,q'.dl+o2,none⟩ l1 c1' l2 c2' hne ei ej C.size D.size
  (by simp[World.shape?,g4]) (by simp[World.shape?,m4]) (by omega) (by simp[World.frozen?,g4]) (by simp[World.frozen?,g4])
 simp_all
end
end Go.Xe
end PartXmC
noncomputable section PartXm10
namespace Go.Xe
open Go.RowKit
def V5 (tm:T Value):List (Nat×Operand)->Option (List (Nat×Value))
 | []=>some []
 | (i,x)::xs=>match a9 tm x with
  |some v=>match V5 tm xs with
   |some vs=>some ((i,v)::vs)
   |none=>none
  |none=>none
theorem ak8 {σ : Sg} {tm : T Value} {a : Act} : ∀ {xs : List (Nat × Operand)} {vs : List (Nat × Value)}, (∀ p ∈ xs, ∀ v, a9 tm p.2 = some v → VR σ v (a.eval p.2)) → V5 tm xs = some vs →
  PVR σ vs (xs.map fun p=>(p.1,a.eval p.2))
 | [],vs,_,hx=>by simp[V5]at hx;subst hx;exact⟨rfl,fun i x y h _=>by simp at h⟩
 | (i,x)::xs,vs,h,hx=>by
  simp only[V5]at hx;cases hv:a9 tm x with
  |none=>grind
  |some v=>
   cases hr:V5 tm xs with
   |none=>grind
   |some r=>
    simp[hv,hr]at hx;subst hx;have ih:=ak8 (fun p hp=>h p (by simp[hp])) hr
    refine⟨by simp[ih.1],fun j p q hp hq=>?_⟩
    cases j with
    |zero=>grind
    |succ j=>simp only[bJ0,bN0]at hp hq;exact ih.2 j p q hp hq
def ah5 (tm:T Value):Option Operand->Option (Option Value)
 |none=>some none
 |some x=>match a9 tm x with
  |some v=>some (some v)
  |none=>none
theorem ap2 {σ:Sg}{tm:T Value}{a:Act}{x:Option Operand}(h:∀y,x=some y-> ∀v,a9 tm y=some v->VR σ v (a.eval y)){v:Option Value}(hx:ah5 tm x=some v):OVR σ v (x.map a.eval):=by
 cases x with
 |none=>simp only[ah5,bH9]at hx;subst hx;exact trivial
 |some x=>
  simp only[ah5]at hx;cases hv:a9 tm x with
  |none=>grind
  |some u=>simp only[hv,bH9]at hx;subst hx;exact h x rfl _ hv
theorem ao7 {σ:Sg}{tm:T Value}{a:Act}:∀ {xs:List Operand} {vs:List Value},(∀x∈xs,∀v,a9 tm x=some v->VR σ v (a.eval x))->ah4 tm xs=some vs->VRL σ vs (xs.map a.eval)
 | [],vs,_,hx=>by simp[ah4]at hx;subst hx;exact VRL.nil σ
 |x::xs,vs,h,hx=>by
  simp only[ah4]at hx;cases hv:a9 tm x with
  |none=>grind
  |some v=>
   cases hr:ah4 tm xs with
   |none=>grind
   |some r=>simp[hv,hr]at hx;subst hx;exact VRL.cons (h x (by simp) _ hv) (ao7 (fun y hy=>h y (by simp[hy])) hr)
def f7 (hp:Hp):Option Value->Option (Value×Hp)
 |some v=>some (v,hp)
 |none=>none
theorem i8 {hp hp':Hp}{x:Option Value}{v:Value}(h:f7 hp x=some (v,hp')):x=some v/\hp'=hp:=by
 cases x with
 |none=>cases h
 |some u=>simp only[f7,bH9,bI1]at h;exact⟨by rw[h.1],h.2.symm⟩
structure d8 where
 run:FuncId->List Value->Hp->Option (Value×Hp)
 ov:FuncId->Option TypeId
 round:Nat->List Value->Hp->Option (Value×Hp)
def aq8 (fn:Func):Bool:=fn.body.isSome&& !(fn.name== "runtime.NumGoroutine")
def z9 (P:Program)(hp:Hp)(b:Builtin)(ats:List TypeId)(args:List Value):Option (Value×Hp):=
 match b,ats,args with
 | .append,[t,u],[s,x]=>match B3 P hp t u s x with
  |some r=>some r
  |none=>R6 P hp t u s x
 | .clear,[t],[x]=>as4 P hp t x
 | .copy,[t,_],[d,x]=>aL0 P hp t d x
 | .len,[t],[x]=>f7 hp (U4 hp P t x)
 | .cap,[t],[x]=>f7 hp (ao5 P t x)
 | .min,_,x::xs=>f7 hp (ab6 false x xs)
 | .max,_,x::xs=>f7 hp (ab6 true x xs)
 |_,_,_=>none
def aE1 (P : Program) (call : d8) (hp : Hp) (f : Value) (args : List Value) : Option (Value × Hp) :=
 match f with
 | .func (.func g) first captured => match P.funcs[g]? with
  | some fn => bif aq8 fn then call.run g (first.toList ++ args ++ captured.toList) hp else
    match call.ov g with
    |some t=>bif Nat.beq t ai1 then none else aY7 P hp t (first.toList++args++captured.toList)
    |none=>none
  |none=>none
 | .chan (some i)=>call.round i args hp
 |_=>none
def xnw (P:Program)(tm:T Value)(o:Op):Option Nw:=
 match o with
 | .alloc e=>ao4 P e
 | .box e x=>match a9 tm x with
  |some v=>some (aX7 e v)
  |none=>none
 | .buildSlice t len parts=>match V5 tm parts.toList with
  |some ps=>bp9 P t len ps
  |none=>none
 | .makeSlice t l c=>match a9 tm l with
  |some v=>match a9 tm c with
   |some u=>bq6 P t v u
   |none=>none
  |none=>none
 | .makeMap t r=>match ah5 tm r with
  |some v=>match P.underlying t with
   |some (.map _ _)=>bk1 v
   |_=>none
  |none=>none
 | .range t x=>match a9 tm x with
  |some v=>ap3 P t v
  |none=>none
 |_=>none
def J8 (hp:Hp):Option Nw->Option (Value×Hp)
 |some n=>some (hp.add n)
 |none=>none
def oPick (tm:T Value)(hp:Hp)(c:Operand)(a:Operand)(b:Operand):Option (Value×Hp):=
 match a9 tm c with
  |some (.bool t)=>bif t then f7 hp (a9 tm a)else f7 hp (a9 tm b)
  |_=>none
def oNext (tm:T Value)(hp:Hp)(it:Operand)(isS:Bool):Option (Value×Hp):=
 match a9 tm it with
  |some v=>aF2 hp v isS
  |none=>none
def bC9 (P:Program)(tm:T Value)(hp:Hp)(t:TypeId)(x:Operand)(k:Operand)(ok:Bool):Option (Value×Hp):=
 match a9 tm x with
  |some v=>match a9 tm k with
   |some u=>f7 hp (D8 P hp t v u ok)
   |none=>none
  |none=>none
def aB6 (P:Program)(tm:T Value)(hp:Hp)(t:TypeId)(m:Operand)(k:Operand)(x:Operand):Option (Value×Hp):=
 match a9 tm m with
  |some mv=>match a9 tm k with
   |some kv=>match a9 tm x with
    |some xv=>match U5 P hp t mv kv xv with
     |some hp'=>some (undef,hp')
     |none=>none
    |none=>none
   |none=>none
  |none=>none
def bn1 (P:Program)(tm:T Value)(hp:Hp)(t:TypeId)(m:Operand)(k:Operand):Option (Value×Hp):=
 match a9 tm m with
  |some mv=>match a9 tm k with
   |some kv=>H7 P hp t mv kv
   |none=>none
  |none=>none
def aU2 (tm:T Value)(hp:Hp)(m:Operand)(s:Operand)(x:Operand):Option (Value×Hp):=
 match a9 tm m with
  |some mv=>match a9 tm s with
   |some sv=>match a9 tm x with
    |some xv=>match K4 hp mv sv xv with
     |some hp'=>some (undef,hp')
     |none=>none
    |none=>none
   |none=>none
  |none=>none
def bG5 (P:Program)(tm:T Value)(hp:Hp)(t:TypeId)(parts:Array (Nat×Operand)):Option (Value×Hp):=
 match V5 tm parts.toList with
  |some ps=>f7 hp (ak2 P t ps)
  |none=>none
def oLoad (P:Program)(tm:T Value)(hp:Hp)(t:TypeId)(a:Operand):Option (Value×Hp):=
 match a9 tm a with
  |some v=>f7 hp (O3 P hp t v)
  |none=>none
def bG9 (P:Program)(tm:T Value)(hp:Hp)(t:TypeId)(a:Operand)(x:Operand):Option (Value×Hp):=
 match a9 tm a with
  |some v=>match a9 tm x with
   |some u=>match J7 P hp t v u with
    |some hp'=>some (undef,hp')
    |none=>none
   |none=>none
  |none=>none
def bn2 (tm:T Value)(hp:Hp)(x:Operand):Option (Value×Hp):=
 match a9 tm x with
  |some (.pointer (some p))=>some (.pointer (some p),hp)
  |some (.func (.func f) a b)=>some (.func (.func f) a b,hp)
  |_=>none
def bG4 (P:Program)(tm:T Value)(hp:Hp)(op:BinOp)(t:TypeId)(x:Operand)(y:Operand):Option (Value×Hp):=
 match a9 tm x with
  |some v=>match a9 tm y with
   |some u=>f7 hp (G7 P op t v u)
   |none=>none
  |none=>none
def oUnOp (tm:T Value)(hp:Hp)(op:UnOp)(x:Operand):Option (Value×Hp):=
 match a9 tm x with
  |some v=>f7 hp (xun op v)
  |none=>none
def bw1 (P:Program)(tm:T Value)(hp:Hp)(s:TypeId)(d:TypeId)(x:Operand):Option (Value×Hp):=
 match a9 tm x with
  |some v=>f7 hp (ai2 P s d v)
  |none=>none
def aB5 (P:Program)(tm:T Value)(hp:Hp)(t:TypeId)(x:Operand):Option (Value×Hp):=
 match a9 tm x with
  |some v=>f7 hp (ak6 P t v)
  |none=>none
def bn0 (tm:T Value)(hp:Hp)(fn:Fn)(first:Array Operand)(captured:Array Operand):Option (Value×Hp):=
 match ah4 tm first.toList with
  |some fs=>match ah4 tm captured.toList with
   |some cs=>some (.func fn fs.toArray cs.toArray,hp)
   |none=>none
  |none=>none
def bG8 (P:Program)(tm:T Value)(hp:Hp)(t:TypeId)(x:Operand)(lo:Option Operand)(hi:Option Operand)(mx:Option Operand):Option (Value×Hp):=
 match a9 tm x with
  |some v=>match ah5 tm lo with
   |some l=>match ah5 tm hi with
    |some h=>match ah5 tm mx with
     |some m=>q9 P hp t v l h m
     |none=>none
    |none=>none
   |none=>none
  |none=>none
def bb6 (P:Program)(tm:T Value)(hp:Hp)(t:TypeId)(x:Operand)(f:Nat):Option (Value×Hp):=
 match a9 tm x with
  |some v=>f7 hp (J6 P t v f)
  |none=>none
def bG6 (P:Program)(tm:T Value)(hp:Hp)(t:TypeId)(x:Operand)(f:Nat):Option (Value×Hp):=
 match a9 tm x with
  |some v=>f7 hp (ak5 P t v f)
  |none=>none
def bb7 (P:Program)(tm:T Value)(hp:Hp)(t:TypeId)(x:Operand)(i:Operand):Option (Value×Hp):=
 match a9 tm x with
  |some v=>match a9 tm i with
   |some u=>f7 hp (B9 P t v u)
   |none=>none
  |none=>none
def bG7 (P:Program)(tm:T Value)(hp:Hp)(t:TypeId)(x:Operand)(i:Operand):Option (Value×Hp):=
 match a9 tm x with
  |some v=>match a9 tm i with
   |some u=>f7 hp (af1 P t v u)
   |none=>none
  |none=>none
def bw2 (tm:T Value)(hp:Hp)(x:Operand)(i:Nat):Option (Value×Hp):=
 match a9 tm x with
  |some v=>f7 hp (R7 v i)
  |none=>none
def oCall (P:Program)(call:d8)(tm:T Value)(hp:Hp)(c:Call):Option (Value×Hp):=
 match ah4 tm c.args.toList with
  |some args=>match c.callee with
   | .builtin b=>z9 P hp b c.argTypes.toList args
   | .value f=>match a9 tm f with
    |some v=>aE1 P call hp v args
    |none=>none
   |_=>none
  |none=>none
def xop (P:Program)(call:d8)(tm:T Value)(hp:Hp)(o:Op):Option (Value×Hp):=
 Op.rec (motive:=fun _=>Program->d8->T Value->Hp->Option (Value×Hp))
  (fun x _ _ tm hp=>f7 hp (a9 tm x))
  (fun x _ _ tm hp=>f7 hp (a9 tm x))
  (fun c a b _ _ tm hp=>oPick tm hp c a b)
  (fun e P _ tm hp=>J8 hp (xnw P tm (.alloc e)))
  (fun e x P _ tm hp=>J8 hp (xnw P tm (.box e x)))
  (fun t parts P _ tm hp=>bG5 P tm hp t parts)
  (fun t len parts P _ tm hp=>J8 hp (xnw P tm (.buildSlice t len parts)))
  (fun t m k x P _ tm hp=>aB6 P tm hp t m k x)
  (fun t a P _ tm hp=>oLoad P tm hp t a)
  (fun t a x P _ tm hp=>bG9 P tm hp t a x)
  (fun _ _ _ _ _=>none)
  (fun _ _ _ _ _=>none)
  (fun x _ _ tm hp=>bn2 tm hp x)
  (fun op t x y _ P _ tm hp=>bG4 P tm hp op t x y)
  (fun op _ x _ _ tm hp=>oUnOp tm hp op x)
  (fun s d x P _ tm hp=>bw1 P tm hp s d x)
  (fun _ _ _ _ _ _=>none)
  (fun t x P _ tm hp=>aB5 P tm hp t x)
  (fun fn first captured _ _ tm hp=>bn0 tm hp fn first captured)
  (fun t r P _ tm hp=>J8 hp (xnw P tm (.makeMap t r)))
  (fun _ _ _ _ _ _=>none)
  (fun t l c P _ tm hp=>J8 hp (xnw P tm (.makeSlice t l c)))
  (fun t x lo hi mx P _ tm hp=>bG8 P tm hp t x lo hi mx)
  (fun t x f P _ tm hp=>bb6 P tm hp t x f)
  (fun t x f P _ tm hp=>bG6 P tm hp t x f)
  (fun t x i P _ tm hp=>bb7 P tm hp t x i)
  (fun t x i P _ tm hp=>bG7 P tm hp t x i)
  (fun t x k ok P _ tm hp=>bC9 P tm hp t x k ok)
  (fun t m k x P _ tm hp=>aB6 P tm hp t m k x)
  (fun t m k P _ tm hp=>bn1 P tm hp t m k)
  (fun _ m s x _ _ tm hp=>aU2 tm hp m s x)
  (fun t x P _ tm hp=>J8 hp (xnw P tm (.range t x)))
  (fun it isS _ _ tm hp=>oNext tm hp it isS)
  (fun _ _ _ _ _=>none)
  (fun _ _ _ _ _ _ _ _=>none)
  (fun x i _ _ tm hp=>bw2 tm hp x i)
  (fun c P call tm hp=>oCall P call tm hp c)
  (fun _ _ _ _ _=>none)
  (fun _ _ _ _ _=>none)
  (fun _ _ _ _ _=>none)
  (fun _ _ _ _ _ _=>none)
  (fun _ _ _ _ _ _ _=>none)
  (fun _ _ _ _ _ _=>none)
  o P call tm hp
def k9 (P:Program)(call:d8)(tm:T Value)(hp:Hp)(o:Op):Option (Value×Hp):=
 match o with
 | .move x=>f7 hp (a9 tm x)
 | .assign x=>f7 hp (a9 tm x)
 | .pick c a b=>match a9 tm c with
  |some (.bool t)=>bif t then f7 hp (a9 tm a)else f7 hp (a9 tm b)
  |_=>none
 | .alloc e=>J8 hp (xnw P tm (.alloc e))
 | .box e x=>J8 hp (xnw P tm (.box e x))
 | .makeMap t r=>J8 hp (xnw P tm (.makeMap t r))
 | .range t x=>J8 hp (xnw P tm (.range t x))
 | .next it isS=>match a9 tm it with
  |some v=>aF2 hp v isS
  |none=>none
 | .lookup t x k ok=>match a9 tm x with
  |some v=>match a9 tm k with
   |some u=>f7 hp (D8 P hp t v u ok)
   |none=>none
  |none=>none
 | .mapEntry t m k=>match a9 tm m with
  |some mv=>match a9 tm k with
   |some kv=>H7 P hp t mv kv
   |none=>none
  |none=>none
 | .entryStore _ m s x=>match a9 tm m with
  |some mv=>match a9 tm s with
   |some sv=>match a9 tm x with
    |some xv=>match K4 hp mv sv xv with
     |some hp'=>some (undef,hp')
     |none=>none
    |none=>none
   |none=>none
  |none=>none
 | .mapUpdate t m k x=>match a9 tm m with
  |some mv=>match a9 tm k with
   |some kv=>match a9 tm x with
    |some xv=>match U5 P hp t mv kv xv with
     |some hp'=>some (undef,hp')
     |none=>none
    |none=>none
   |none=>none
  |none=>none
 | .insert t m k x=>match a9 tm m with
  |some mv=>match a9 tm k with
   |some kv=>match a9 tm x with
    |some xv=>match U5 P hp t mv kv xv with
     |some hp'=>some (undef,hp')
     |none=>none
    |none=>none
   |none=>none
  |none=>none
 | .build t parts=>match V5 tm parts.toList with
  |some ps=>f7 hp (ak2 P t ps)
  |none=>none
 | .buildSlice t len parts=>J8 hp (xnw P tm (.buildSlice t len parts))
 | .load t a=>match a9 tm a with
  |some v=>f7 hp (O3 P hp t v)
  |none=>none
 | .store t a x=>match a9 tm a with
  |some v=>match a9 tm x with
   |some u=>match J7 P hp t v u with
    |some hp'=>some (undef,hp')
    |none=>none
   |none=>none
  |none=>none
 | .nilCheck x=>match a9 tm x with
  |some (.pointer (some p))=>some (.pointer (some p),hp)
  |some (.func (.func f) a b)=>some (.func (.func f) a b,hp)
  |_=>none
 | .binOp op t x y _=>match a9 tm x with
  |some v=>match a9 tm y with
   |some u=>f7 hp (G7 P op t v u)
   |none=>none
  |none=>none
 | .unOp op _ x=>match a9 tm x with
  |some v=>f7 hp (xun op v)
  |none=>none
 | .convert s d x=>match a9 tm x with
  |some v=>f7 hp (ai2 P s d v)
  |none=>none
 | .makeInterface t x=>match a9 tm x with
  |some v=>f7 hp (ak6 P t v)
  |none=>none
 | .makeFunc fn first captured=>match ah4 tm first.toList with
  |some fs=>match ah4 tm captured.toList with
   |some cs=>some (.func fn fs.toArray cs.toArray,hp)
   |none=>none
  |none=>none
 | .makeSlice t l c=>J8 hp (xnw P tm (.makeSlice t l c))
 | .slice t x lo hi mx=>match a9 tm x with
  |some v=>match ah5 tm lo with
   |some l=>match ah5 tm hi with
    |some h=>match ah5 tm mx with
     |some m=>q9 P hp t v l h m
     |none=>none
    |none=>none
   |none=>none
  |none=>none
 | .fieldAddr t x f=>match a9 tm x with
  |some v=>f7 hp (J6 P t v f)
  |none=>none
 | .field t x f=>match a9 tm x with
  |some v=>f7 hp (ak5 P t v f)
  |none=>none
 | .indexAddr t x i=>match a9 tm x with
  |some v=>match a9 tm i with
   |some u=>f7 hp (B9 P t v u)
   |none=>none
  |none=>none
 | .index t x i=>match a9 tm x with
  |some v=>match a9 tm i with
   |some u=>f7 hp (af1 P t v u)
   |none=>none
  |none=>none
 | .extract x i=>match a9 tm x with
  |some v=>f7 hp (R7 v i)
  |none=>none
 | .call c=>match ah4 tm c.args.toList with
  |some args=>match c.callee with
   | .builtin b=>z9 P hp b c.argTypes.toList args
   | .value f=>match a9 tm f with
    |some v=>aE1 P call hp v args
    |none=>none
   |_=>none
  |none=>none
 |_=>none
theorem c6 (P:Program)(call:d8)(tm:T Value)(hp:Hp)(o:Op):xop P call tm hp o=k9 P call tm hp o:=by cases o<;>rfl
def RF (r:Option Nat):Fence:= {Fence.wide with round:=r}
theorem d7 {P:Program}{r:Option Nat}{o:Oper}{a:Act}{w:World}{next:Act->World->Prop}{Q:Exit->Act->World->Prop}(nd:∀c,o.op≠ .defer c)(h:o.wp P a w next Q):o.wpIn (RF r) 0 P a w next Q:=by
 have hd:(RF r).depth.isSome=true->1<=0:=fun h=>by cases h
 refine⟨fun _ _=>trivial,?_⟩
 rw[Oper.semAt_eq _ _ _ nd];unfold Oper.wp at h;generalize (execOp a.eval o).run P w=x at h;cases x with
 |ok n w'=>
  cases n<;>simp only[Oper.upon]at h<;>simp only[Oper.uponIn]<;>first
   |exact h
   |exact⟨hd,(show CallsIn Fence.wide _ P _ _ _ _ from callsIn_wide.2 h)⟩
   |exact⟨hd,fun c cs _=>let⟨v,w',r,s⟩:=h c cs;⟨v,w',r,(show StepsIn (Machine.fenced P Fence.wide) P _ _ from stepsIn_wide.2 s)⟩⟩
 |halt x w'=>cases x<;>simp only[Oper.upon]at h<;>simp only[Oper.uponIn]<;>exact h
structure E7 (P:Program)(call:d8):Prop where
 run:∀g args hp v hp',call.run g args hp=some (v,hp')-> ∀B w0 σ w args',VRL σ args args'->HR B w0 σ hp w->
  Calls P g args'.toArray w (fun e w'=>∃σ' u,e= .returned u/\Sg.gr hp.nx hp'.nx σ σ'/\VR σ' v u/\HR B w0 σ' hp' w')
 ov:∀g t,call.ov g=some t->ai7 P g t
 round:∀i args hp v hp',call.round i args hp=some (v,hp')-> ∀B w0 σ w args' p,σ i=some p->VRL σ args args'->HR B w0 σ hp w->
  ∃r,w.heap[p.blk]? =some (.loop r)/\args'.length=r.params.size/\
   RoundIn Fence.wide 0 P p.blk r.fn ((r.params.zip args'.toArray).foldl (fun tmps (t,a)=>tmps.setIfInBounds t a) r.tmps) r.assign r.body w (fun e w'=>∃σ' u,e= .returned u/\Sg.gr hp.nx hp'.nx σ σ'/\VR σ' v u/\HR B w0 σ' hp' w')
section
variable {P :Program}{B:BS}{w0:World}{σ:Sg}{hp:Hp}{w:World}
theorem MOK.of_pure {v u:Value}{s:Sem Value}(h1:VR σ v u)(h2:∀w,s.run P w= .ok u w)(hw:HR B w0 σ hp w):MOK hp B w0 σ v hp (s.run P w):=
 ⟨σ,u,w,h2 w,Sg.gr_refl _ σ,h1,hw⟩
theorem aE0 {b : Builtin} {ats : Array TypeId} {args : List Value} {args' : List Value} {v : Value} {hp' : Hp} (h : z9 P hp b ats.toList args = some (v, hp'))
  (ha:VRL σ args args') (hw:HR B w0 σ hp w) (ty:TypeId) (cs:Array Bool):
  ∃σ' u w',(builtin b ats ty cs args'.toArray).run P w= .ok (.value u) w'/\Sg.gr hp.nx hp'.nx σ σ'/\VR σ' v u/\HR B w0 σ' hp' w':=by
 have fin : ∀ {s : Sem Value}, MOK hp B w0 σ v hp' (s.run P w) → builtin b ats ty cs args'.toArray = (do pure (.value (← s)) : Sem Next) →
   ∃σ' u w',(builtin b ats ty cs args'.toArray).run P w= .ok (.value u) w'/\Sg.gr hp.nx hp'.nx σ σ'/\VR σ' v u/\HR B w0 σ' hp' w':=by
  intro s hm he;obtain⟨σ',u,w',h1,h2,h3,h4⟩:=hm;refine⟨σ',u,w',?_,h2,h3,h4⟩
  simp_all
 unfold z9 at h;split at h
 ·rename_i t u s x hat
  obtain⟨s',r,rfl,hs,hr⟩:=ha.uncons;obtain⟨x',r,rfl,hx,hr⟩:=hr.uncons;rw[hr.unnil]at*;have:ats= #[t,u]:=by apply bQ0;exact hat
  subst this;split at h
  ·rename_i r hr0
   cases h;exact fin (aG8 hr0 hs hx hw ty) rfl
  ·exact fin (aD9 h hs hx hw ty) rfl
 ·rename_i t x hat
  obtain⟨x',r,rfl,hx,hr⟩:=ha.uncons;rw[hr.unnil]at*;have:ats= #[t]:=by apply bQ0;exact hat
  subst this;exact fin (aP4 h hx hw ty) rfl
 ·rename_i t u d x hat
  obtain⟨s',r,rfl,hs,hr⟩:=ha.uncons;obtain⟨x',r,rfl,hx,hr⟩:=hr.uncons;rw[hr.unnil]at*;have:ats= #[t,u]:=by apply bQ0;exact hat
  subst this;exact fin (aY1 h hs hx hw ty) rfl
 ·rename_i t x hat
  obtain⟨x',r,rfl,hx,hr⟩:=ha.uncons;rw[hr.unnil]at*;obtain⟨hh0,rfl⟩:=i8 h;have:ats= #[t]:=by apply bQ0;exact hat
  subst this;obtain⟨h1,h2⟩:=aY3 (P:=P) hh0 hx hw ty #[t] rfl;exact fin (s:=Builtin.len_ #[t] ty #[x']) ⟨σ,_,w,h2,Sg.gr_refl _ σ,h1,hw⟩ rfl
 ·rename_i t x hat
  obtain⟨x',r,rfl,hx,hr⟩:=ha.uncons;rw[hr.unnil]at*;obtain⟨hh0,rfl⟩:=i8 h;have:ats= #[t]:=by apply bQ0;exact hat
  subst this;obtain⟨u0,h1,h2⟩:=be7 (P:=P) hh0 hx ty #[t] rfl;exact fin (MOK.of_pure h1 h2 hw) rfl
 ·rename_i x xs
  obtain⟨x',r,rfl,hx,hr⟩:=ha.uncons;obtain⟨hh0,rfl⟩:=i8 h;obtain⟨h1,h2⟩:=aF1 (P:=P) hh0 hx hr;exact fin (s:=Builtin.min_ ats ty (x'::r).toArray) (MOK.of_pure h1 h2 hw) rfl
 ·rename_i x xs
  obtain⟨x',r,rfl,hx,hr⟩:=ha.uncons;obtain⟨hh0,rfl⟩:=i8 h;obtain⟨h1,h2⟩:=aF0 (P:=P) hh0 hx hr;exact fin (s:=Builtin.max_ ats ty (x'::r).toArray) (MOK.of_pure h1 h2 hw) rfl
 ·cases h
theorem Z3 {g : FuncId} {fn : Func} {args : Array Value} (hf : P.funcs[g]? = some fn) (ho : aq8 fn = true) (w : World) :
  (callFunc g args).run P w= .ok (.enter g args) w:=by
 simp only[aq8,bI0,bM5]at ho;have hb:fn.body.isNone=false:=by simp_all
 simp only[callFunc,bK8,bS1,bK4,hf,ho.2,hb,bP1,bR0,bL3]
set_option maxHeartbeats 2000000 in
theorem aL3 {tm : T Value} {o : Oper} {n : Nw} (h : xnw P tm o.op = some n) {a : Act} (ht : ∀ x ∈ o.op.operands, ∀ v, a9 tm x = some v → VR σ v (a.eval x)) :
  ∃s:Sem Value,execOp a.eval o=(do pure (.value (<-s)):Sem Next)/\al2 P σ n s:=by
 obtain⟨dst,op,type,pos,after,guard⟩:=o;cases op
 case alloc e=>exact⟨_,rfl,aG7 h⟩
 case box e x=>
  simp only[xnw]at h;split at h
  ·rename_i v hv
   simp only[bH9]at h;subst h;exact⟨_,rfl,aX8 (ht x (by simp[Op.operands]) _ hv)⟩
  ·cases h
 case buildSlice t len parts=>
  simp only[xnw]at h;split at h
  ·rename_i ps hps
   have hp1:=ak8 (σ:=σ) (a:=a) (fun p hp=>ht p.2 (by simp only[Op.operands,List.mem_toArray];exact bQ2.2 ⟨p,hp,rfl⟩)) hps
   exact⟨_,rfl,be6 (ys:=parts.map fun(i,x)=>(i,a.eval x)) h (by simpa using hp1)⟩
  ·cases h
 case makeSlice t l c=>
  simp only[xnw]at h;split at h
  ·rename_i lv hl
   split at h
   ·rename_i cv hc
    exact⟨_,rfl,bf0 h (ht l (by simp[Op.operands]) _ hl) (ht c (by simp[Op.operands]) _ hc)⟩
   ·cases h
  ·cases h
 case makeMap t r=>
  simp only[xnw]at h;split at h
  ·rename_i rv hr
   split at h
   ·rename_i kt et hu
    have ho:=ap2 (σ:=σ) (a:=a) (fun y hy=>ht y (by subst hy;simp[Op.operands])) hr
    refine⟨_,rfl,aY4 h ?_ (by rw[hu];exact trivial)⟩
    unfold OVR at ho;cases rv<;>cases r<;>simp_all
   ·cases h
  ·cases h
 case range t x=>
  simp only[xnw]at h;split at h
  ·rename_i xv hx
   exact⟨_,rfl,aH0 h (ht x (by simp[Op.operands]) _ hx)⟩
  ·cases h
 all_goals (simp only[xnw,reduceCtorEq]at h)
set_option maxHeartbeats 2000000 in
theorem X5 {call : d8} (hcall : E7 P call) {tm : T Value} {o : Oper} {v : Value} {hp' : Hp}
  (h:xop P call tm hp o.op=some (v,hp')) {a:Act} (ht:∀x∈o.op.operands,∀v,a9 tm x=some v->VR σ v (a.eval x)) (hw:HR B w0 σ hp w) (next:Act->World->Prop) (Q:Exit->Act->World->Prop)
  (hn:∀σ' u w',Sg.gr hp.nx hp'.nx σ σ'->VR σ' v u->HR B w0 σ' hp' w'->next (a.put o.dst u) w') (r:Option Nat):o.wpIn (RF r) 0 P a w next Q:=by
 have val:∀ {s:Sem Value},MOK hp B w0 σ v hp' (s.run P w)->execOp a.eval o=(do pure (.value (<-s)):Sem Next)->o.wp P a w next Q:=by
  intro s hm he;obtain⟨σ',u,w',h1,h2,h3,h4⟩:=hm;unfold Oper.wp;rw[he];simp only[bK8,h1,bK4,bL3,bR8];exact hn σ' u w' h2 h3 h4
 have pur : ∀ {s : Sem Value} {x : Option Value}, f7 hp x = some (v, hp') → (x = some v → ∃ u, VR σ v u ∧ ∀ w, s.run P w = .ok u w) →
   execOp a.eval o=(do pure (.value (<-s)):Sem Next)->o.wp P a w next Q:=by
  intro s x hx hs he;obtain⟨hx0,rfl⟩:=i8 hx;obtain⟨u,h1,h2⟩:=hs hx0;exact val (MOK.of_pure h1 h2 hw) he
 have neu:∀(q:Op),J8 hp (xnw P tm q)=some (v,hp')->o.op=q->o.wp P a w next Q:=by
  intro q hx hq;cases hn2:xnw P tm q with
  |none=>rw[hn2]at hx;cases hx
  |some n=>
   rw[hn2]at hx;simp only[J8,bH9]at hx;obtain⟨s,h1,h2⟩:=aL3 (P:=P) (σ:=σ) (o:=o) (by rw[hq];exact hn2) ht
   have hm:=h2.mok hw;rw[hx]at hm;exact val hm h1
 obtain⟨dst,op,type,pos,after,guard⟩:=o;cases op
 case move x=>
  refine d7 (fun _ h=>by cases h) ?_
  simp only[c6,k9]at h;obtain⟨hx0,rfl⟩:=i8 h;exact hn σ _ w (Sg.gr_refl _ σ) (ht _ (by simp[Op.operands]) _ hx0) hw
 case assign x=>
  refine d7 (fun _ h=>by cases h) ?_
  simp only[c6,k9]at h;obtain⟨hx0,rfl⟩:=i8 h;exact hn σ _ w (Sg.gr_refl _ σ) (ht _ (by simp[Op.operands]) _ hx0) hw
 case pick c x y=>
  refine d7 (fun _ h=>by cases h) ?_
  simp only[c6,k9]at h;split at h
  ·rename_i t hc
   have hcv:=ht _ (by simp[Op.operands]) _ hc
   generalize hce:a.eval c=cv at hcv;cases hcv;cases t with
   |true=>
    rw[bJ6]at h;obtain⟨hx0,rfl⟩:=i8 h;unfold Oper.wp;simp only[execOp,hce,asBool,bK8,bL3,bK4,bR1,bR8];exact hn σ _ w (Sg.gr_refl _ σ) (ht _ (by simp[Op.operands]) _ hx0) hw
   |false=>
    rw[bJ7]at h;obtain⟨hx0,rfl⟩:=i8 h;unfold Oper.wp;simp only[execOp,hce,asBool,bK8,bL3,bK4,bP1,bR0,bR8];exact hn σ _ w (Sg.gr_refl _ σ) (ht _ (by simp[Op.operands]) _ hx0) hw
  ·cases h
 case alloc e=>exact d7 (fun _ h=>by cases h) (neu (.alloc e) h rfl)
 case box e x=>exact d7 (fun _ h=>by cases h) (neu (.box e x) h rfl)
 case makeMap t r=>exact d7 (fun _ h=>by cases h) (neu (.makeMap t r) h rfl)
 case range t x=>exact d7 (fun _ h=>by cases h) (neu (.range t x) h rfl)
 case next it isS=>
  refine d7 (fun _ h=>by cases h) ?_
  simp only[c6,k9]at h;split at h
  ·rename_i xv hx
   exact val (aY5 h (ht _ (by simp[Op.operands]) _ hx) hw type) rfl
  ·cases h
 case lookup t x k ok=>
  refine d7 (fun _ h=>by cases h) ?_
  simp only[c6,k9]at h;split at h
  ·rename_i xv hx
   split at h
   ·rename_i kv hk
    obtain⟨hh0,rfl⟩:=i8 h;obtain⟨u,h1,h2⟩:=aG9 hh0 (ht _ (by simp[Op.operands]) _ hx) (ht _ (by simp[Op.operands]) _ hk) hw
    exact val ⟨σ,u,w,h2,Sg.gr_refl _ σ,h1,hw⟩ rfl
   ·cases h
  ·cases h
 case mapUpdate t m k x=>
  refine d7 (fun _ h=>by cases h) ?_
  simp only[c6,k9]at h;split at h
  ·rename_i mv hm
   split at h
   ·rename_i kv hk
    split at h
    ·rename_i xv hx
     split at h
     ·rename_i hp2 hst
      simp only[bH9,bI1]at h;obtain⟨rfl,rfl⟩:=h;obtain⟨w',h1,h2,h3⟩:=ai4 hst (ht _ (by simp[Op.operands]) _ hm) (ht _ (by simp[Op.operands]) _ hk) (ht _ (by simp[Op.operands]) _ hx) hw
      unfold Oper.wp;simp only[execOp,bK8,h1,bK4,bL3,Oper.upon_skip];exact hn σ undef w' (by rw[h3];exact Sg.gr_refl _ σ) (VR.undef σ) h2
     ·cases h
    ·cases h
   ·cases h
  ·cases h
 case mapEntry t m k=>
  refine d7 (fun _ h=>by cases h) ?_
  simp only[c6,k9]at h;split at h
  ·rename_i mv hm
   split at h
   ·rename_i kv hk
    exact val (ax1 h (ht _ (by simp[Op.operands]) _ hm) (ht _ (by simp[Op.operands]) _ hk) hw) rfl
   ·cases h
  ·cases h
 case entryStore t m s x=>
  refine d7 (fun _ h=>by cases h) ?_
  simp only[c6,k9]at h;split at h
  ·rename_i mv hm
   split at h
   ·rename_i sv hsv
    split at h
    ·rename_i xv hx
     split at h
     ·rename_i hp2 hst
      simp only[bH9,bI1]at h;obtain⟨rfl,rfl⟩:=h;obtain⟨w',h1,h2,h3⟩:=ao6 (P:=P) (t:=t) hst (ht _ (by simp[Op.operands]) _ hm) (ht _ (by simp[Op.operands]) _ hsv) (ht _ (by simp[Op.operands]) _ hx) hw
      unfold Oper.wp;simp only[execOp,bK8,h1,bK4,bL3,Oper.upon_skip];exact hn σ undef w' (by rw[h3];exact Sg.gr_refl _ σ) (VR.undef σ) h2
     ·cases h
    ·cases h
   ·cases h
  ·cases h
 case insert t m k x=>
  refine d7 (fun _ h=>by cases h) ?_
  simp only[c6,k9]at h;split at h
  ·rename_i mv hm
   split at h
   ·rename_i kv hk
    split at h
    ·rename_i xv hx
     split at h
     ·rename_i hp2 hst
      simp only[bH9,bI1]at h;obtain⟨rfl,rfl⟩:=h;obtain⟨w',h1,h2,h3⟩:=ai4 hst (ht _ (by simp[Op.operands]) _ hm) (ht _ (by simp[Op.operands]) _ hk) (ht _ (by simp[Op.operands]) _ hx) hw
      unfold Oper.wp;simp only[execOp,bK8,h1,bK4,bL3,Oper.upon_skip];exact hn σ undef w' (by rw[h3];exact Sg.gr_refl _ σ) (VR.undef σ) h2
     ·cases h
    ·cases h
   ·cases h
  ·cases h
 case build t parts=>
  refine d7 (fun _ h=>by cases h) ?_
  simp only[c6,k9]at h;split at h
  ·rename_i ps hps
   have hp1:=ak8 (fun p hp=>ht p.2 (by simp only[Op.operands,List.mem_toArray];exact bQ2.2 ⟨p,hp,rfl⟩)) hps
   exact pur h (fun hx=>aP3 (ys:=parts.map fun(i,x)=>(i,a.eval x)) hx (by simpa using hp1)) rfl
  ·cases h
 case buildSlice t len parts=>exact d7 (fun _ h=>by cases h) (neu (.buildSlice t len parts) h rfl)
 case load t x=>
  refine d7 (fun _ h=>by cases h) ?_
  simp only[c6,k9]at h;split at h
  ·rename_i xv hx
   obtain⟨hh0,rfl⟩:=i8 h;obtain⟨u,h1,h2⟩:=av7 hh0 (ht _ (by simp[Op.operands]) _ hx) hw
   exact val ⟨σ,u,w,h2,Sg.gr_refl _ σ,h1,hw⟩ rfl
  ·cases h
 case store t x y=>
  refine d7 (fun _ h=>by cases h) ?_
  simp only[c6,k9]at h;split at h
  ·rename_i xv hx
   split at h
   ·rename_i yv hy
    split at h
    ·rename_i hp2 hst
     simp only[bH9,bI1]at h;obtain⟨rfl,rfl⟩:=h;obtain⟨w',h1,h2,h3⟩:=aQ6 hst (ht _ (by simp[Op.operands]) _ hx) (ht _ (by simp[Op.operands]) _ hy) hw
     unfold Oper.wp;simp only[execOp,bK8,h1,bK4,bL3,Oper.upon_skip];exact hn σ undef w' (by rw[h3];exact Sg.gr_refl _ σ) (VR.undef σ) h2
    ·cases h
   ·cases h
  ·cases h
 case nilCheck x=>
  refine d7 (fun _ h=>by cases h) ?_
  simp only[c6,k9]at h;split at h
  ·rename_i p hx
   simp only[bH9,bI1]at h;obtain⟨rfl,rfl⟩:=h;have hv:=ht _ (by simp[Op.operands]) _ hx
   generalize hxe:a.eval x=xv at hv;cases hv with
   |ptr i o q hq=>
   unfold Oper.wp;simp only[execOp,hxe,bL3,bR8];exact hn σ _ w (Sg.gr_refl _ σ) (.ptr i o q hq) hw
  ·rename_i f fa fb hx
   simp only[bH9,bI1]at h;obtain⟨rfl,rfl⟩:=h;have hv:=ht _ (by simp[Op.operands]) _ hx
   generalize hxe:a.eval x=xv at hv;cases hv with
   |func _ _ ys _ ds h1 h2 h3 h4=>
   unfold Oper.wp;simp only[execOp,hxe,bL3,bR8];exact hn σ _ w (Sg.gr_refl _ σ) (.func _ _ ys _ ds h1 h2 h3 h4) hw
  ·cases h
 case binOp op t x y yt=>
  refine d7 (fun _ h=>by cases h) ?_
  simp only[c6,k9]at h;split at h
  ·rename_i xv hx
   split at h
   ·rename_i yv hy
    obtain⟨hh0,rfl⟩:=i8 h;obtain⟨u0,h1,h2⟩:=aX3 (P:=P) hh0 (ht _ (by simp[Op.operands]) _ hx) (ht _ (by simp[Op.operands]) _ hy) x y
    unfold Oper.wp;simp only[execOp,bK8,(h2 w).1,(h2 w).2,bK4,bL3,bR8];exact hn σ _ w (Sg.gr_refl _ σ) h1 hw
   ·cases h
  ·cases h
 case unOp op t x=>
  refine d7 (fun _ h=>by cases h) ?_
  simp only[c6,k9]at h;split at h
  ·rename_i xv hx
   exact pur h (fun hh=>⟨_,br0 hh (ht _ (by simp[Op.operands]) _ hx)⟩) rfl
  ·cases h
 case convert s d x=>
  refine d7 (fun _ h=>by cases h) ?_
  simp only[c6,k9]at h;split at h
  ·rename_i xv hx
   exact pur h (fun hh=>aY0 hh (ht _ (by simp[Op.operands]) _ hx)) rfl
  ·cases h
 case makeInterface t x=>
  refine d7 (fun _ h=>by cases h) ?_
  simp only[c6,k9]at h;split at h
  ·rename_i xv hx
   exact pur h (fun hh=>aP7 hh (ht _ (by simp[Op.operands]) _ hx)) rfl
  ·cases h
 case makeFunc fn first captured=>
  refine d7 (fun _ h=>by cases h) ?_
  simp only[c6,k9]at h;split at h
  ·rename_i fs hfs
   split at h
   ·rename_i cs hcs
    simp only[bH9,bI1]at h;obtain⟨rfl,rfl⟩:=h;have v1:=ao7 (fun y hy=>ht y (by simp only[Op.operands,Array.mem_append];exact .inl (by simpa using hy))) hfs
    have v2:=ao7 (fun y hy=>ht y (by simp only[Op.operands,Array.mem_append];exact .inr (by simpa using hy))) hcs
    refine hn σ (.func fn (first.map a.eval) (captured.map a.eval)) w (Sg.gr_refl _ σ) (.func _ _ _ _ _ ?_ ?_ ?_ ?_) hw
    ·have:=v1.1;simpa using this
    ·intro i x y h1 h2;exact v1.2 i x y (by simpa using h1) (by simpa using h2)
    ·have:=v2.1;simpa using this
    ·intro i x y h1 h2;exact v2.2 i x y (by simpa using h1) (by simpa using h2)
   ·cases h
  ·cases h
 case makeSlice t l c=>exact d7 (fun _ h=>by cases h) (neu (.makeSlice t l c) h rfl)
 case slice t x lo hi mx=>
  refine d7 (fun _ h=>by cases h) ?_
  simp only[c6,k9]at h;split at h
  ·rename_i xv hx
   split at h
   ·rename_i l hl
    split at h
    ·rename_i hh hhi
     split at h
     ·rename_i m hm
      exact val (aQ2 h (ht _ (by simp[Op.operands]) _ hx) (ap2 (fun y hy=>ht y (by subst hy;simp[Op.operands])) hl) (ap2 (fun y hy=>ht y (by subst hy;simp[Op.operands])) hhi) (ap2 (fun y hy=>ht y (by subst hy;simp[Op.operands])) hm) hw) rfl
     ·cases h
    ·cases h
   ·cases h
  ·cases h
 case fieldAddr t x f=>
  refine d7 (fun _ h=>by cases h) ?_
  simp only[c6,k9]at h;split at h
  ·rename_i xv hx
   exact pur h (fun hh=>as8 hh (ht _ (by simp[Op.operands]) _ hx)) rfl
  ·cases h
 case field t x f=>
  refine d7 (fun _ h=>by cases h) ?_
  simp only[c6,k9]at h;split at h
  ·rename_i xv hx
   exact pur h (fun hh=>aP6 hh (ht _ (by simp[Op.operands]) _ hx)) rfl
  ·cases h
 case indexAddr t x i=>
  refine d7 (fun _ h=>by cases h) ?_
  simp only[c6,k9]at h;split at h
  ·rename_i xv hx
   split at h
   ·rename_i iv hi
    exact pur h (fun hh=>as9 hh (ht _ (by simp[Op.operands]) _ hx) (ht _ (by simp[Op.operands]) _ hi)) rfl
   ·cases h
  ·cases h
 case index t x i=>
  refine d7 (fun _ h=>by cases h) ?_
  simp only[c6,k9]at h;split at h
  ·rename_i xv hx
   split at h
   ·rename_i iv hi
    exact pur h (fun hh=>aP8 hh (ht _ (by simp[Op.operands]) _ hx) (ht _ (by simp[Op.operands]) _ hi)) rfl
   ·cases h
  ·cases h
 case extract x i=>
  refine d7 (fun _ h=>by cases h) ?_
  simp only[c6,k9]at h;split at h
  ·rename_i xv hx
   exact pur h (fun hh=>aE4 hh (ht _ (by simp[Op.operands]) _ hx)) rfl
  ·cases h
 case call c=>
  simp only[c6,k9]at h;obtain⟨callee,cargs,cats⟩:=c;split at h
  ·rename_i args hargs
   have hav:=ao7 (fun y hy=>ht y (by simp only[Op.operands,Call.operands,Array.mem_append];exact .inr (by simpa using hy))) hargs
   cases callee with
   |invoke r m=>simp only[reduceCtorEq]at h
   |builtin b=>
    refine d7 (fun _ h=>by cases h) ?_
    simp only at h;obtain⟨σ',u,w',h1,h2,h3,h4⟩:=aE0 (ty:=type) (cs:=cargs.map fun| .const _=>true|_=>false) h hav hw
    unfold Oper.wp;have hmap:(cargs.toList.map a.eval).toArray=cargs.map a.eval:=by apply bQ0;simp
    rw[hmap]at h1;have hrun:(execOp a.eval ⟨dst,.call ⟨.builtin b,cargs,cats⟩,type,pos,after,guard⟩).run P w= .ok (.value u) w':=by
     simp only[execOp,resolve,invoke,bK8,bL3,bK4];exact h1
    rw[hrun];exact hn σ' u w' h2 h3 h4
   |value f=>
    simp only at h;split at h
    ·rename_i fv hf
     have hfv:=ht _ (by simp[Op.operands,Call.operands]) _ hf
     unfold aE1 at h;split at h
     ·rename_i g first captured
      refine d7 (fun _ h=>by cases h) ?_
      generalize hfe:a.eval f=fe at hfv;cases hfv with
      |func _ _ ys _ ds q1 q2 q3 q4=>
      split at h
      ·rename_i fn hfn
       have vf:VRL σ first.toList ys.toList:=⟨by simpa using q1,fun i x y h1 h2=>q2 i x y (by simpa using h1) (by simpa using h2)⟩
       have vc:VRL σ captured.toList ds.toList:=⟨by simpa using q3,fun i x y h1 h2=>q4 i x y (by simpa using h1) (by simpa using h2)⟩
       have hmap:(ys.toList++cargs.toList.map a.eval++ds.toList).toArray=ys++cargs.map a.eval++ds:=by apply bQ0;simp
       have hrun0:(execOp a.eval ⟨dst,.call ⟨.value f,cargs,cats⟩,type,pos,after,guard⟩).run P w=(callFunc g (ys++cargs.map a.eval++ds)).run P w:=by
        simp only[execOp,resolve,hfe,Deferred.ofValue,invoke,bK8,bL3,bK4]
       cases ho:aq8 fn with
       |false=>
        rw[ho,bJ7]at h;split at h
        ·rename_i t0 ht0
         have hne:t0≠ai1:=fun e=>by rw[e,t7 rfl]at h;cases h
         rw[u9 hne,bJ7]at h;obtain⟨rfl,u,h1,h2⟩:=aY8 ((hcall.ov g t0 ht0).resolve_left fun e=>hne e.1).2 h ((vf.append hav).append vc) hw
         rw[hmap]at h2;unfold Oper.wp;rw[hrun0,h2,bR8];exact hn σ u w (Sg.gr_refl _ σ) h1 hw
        ·cases h
       |true=>
        rw[ho,bJ6]at h;have hc:=hcall.run g _ hp v hp' h B w0 σ w _ ((vf.append hav).append vc) hw;rw[hmap]at hc;unfold Oper.wp;rw[hrun0,Z3 hfn ho w,Oper.upon_enter];refine hc.mono fun e w' he=>?_
        obtain⟨σ',u,rfl,h2,h3,h4⟩:=he;exact hn σ' u w' h2 h3 h4
      ·cases h
     ·rename_i i
      generalize hfe:a.eval f=fe at hfv;cases hfv with
      |yield _ p hp0=>
      obtain⟨rec,k1,k2,k3⟩:=hcall.round i args hp v hp' h B w0 σ w _ p hp0 hav hw;have hmap:(cargs.toList.map a.eval).toArray=cargs.map a.eval:=by apply bQ0;simp
      have hrun:(execOp a.eval ⟨dst,.call ⟨.value f,cargs,cats⟩,type,pos,after,guard⟩).run P w=(Instr.yield p.blk (cargs.map a.eval)).run P w:=by
       simp only[execOp,resolve,hfe,Deferred.ofValue,invoke,bK8,bL3,bK4]
       congr 2
       simp
      refine⟨fun _ _=>trivial,?_⟩
      rw[Oper.semAt_eq _ _ _ (fun _ h=>by cases h),hrun,run_yield k1 (by rw[<-k2];simp),Oper.uponIn_round]
      refine⟨(fun h=>by cases h),?_⟩
      rw[hmap]at k3;refine(show RoundIn (RF r) _ P _ _ _ _ _ _ _ from k3).mono fun e w' he=>?_
      obtain⟨σ',u,rfl,h2,h3,h4⟩:=he;exact hn σ' u w' h2 h3 h4
     ·cases h
    ·cases h
  ·cases h
 all_goals (simp only[c6,k9,reduceCtorEq]at h)
end
end Go.Xe
end PartXm10
noncomputable section PartXm11
namespace Go.Xe
open Go.RowKit
def aa9 (ops:List Oper)(tm:T Value)(j:Nat):Option Bool:=
 match ops[j]? with
 |some o=>match o.dst with
  |some d=>match tm.get d with
   |some (.bool b)=>some b
   |_=>none
  |none=>none
 |none=>none
def n8 (ops:List Oper)(tm:T Value)(o:Oper):Bool:=
 match o.guard with
 |none=>true
 |some (j,want)=>match aa9 ops tm j with
  |some b=>b==want
  |none=>false
theorem aF9 {σ : Sg} {nt : Nat} {tm : T Value} {tmps : Array Value} (h : TR σ nt tm tmps) (ops : Array Oper) (o : Oper) :
  Region.wanted o (yielded ops tmps)=n8 ops.toList tm o:=by
 unfold Region.wanted n8;cases o.guard with
 |none=>rfl
 |some gw=>
  obtain⟨j,want⟩:=gw;simp only;have hy:yielded ops tmps j=aa9 ops.toList tm j:=by
   unfold yielded aa9;rw[Array.getElem?_toList];cases hj:ops[j]? with
   |none=>rfl
   |some p=>
    simp only[Option.bind_some];cases hd:p.dst with
    |none=>rfl
    |some d=>
     simp only[Option.bind_some];have:=h.at_ d
     by_cases hlt:d<tmps.size
     ·have e:tmps[d]? =some tmps[d]:=by simp[hlt]
      have e2:tmps.getD d undef=tmps[d]:=by simp_all
      rw[e2]at this;rw[e];cases hg:tm.get d with
      |none=>
       rw[hg,Option.getD_none]at this;generalize tmps[d]=x at this;cases this;rfl
      |some v=>
       rw[hg,bM1]at this;generalize tmps[d]=x at this;cases this<;>rfl
     ·have e:tmps[d]? =none:=Array.getElem?_eq_none (bP7 hlt)
      have e2:tmps.getD d undef=undef:=by grind
      rw[e2]at this;rw[e];cases hg:tm.get d with
      |none=>rfl
      |some v=>
       rw[hg,bM1]at this;unfold undef at this;cases this;rfl
  grind
def y8 (tm:T Value)(dst:Option Tmp)(v:Value):T Value:=
 match dst with
 |some d=>tm.set d (some v)
 |none=>tm
def A4 (nt:Nat)(dst:Option Tmp):Bool:=
 match dst with
 |some d=>Nat.blt d nt
 |none=>true
theorem TR.putO {σ : Sg} {nt : Nat} {tm : T Value} {a : Act} (h : TR σ nt tm a.tmps) {dst : Option Tmp} (hd : A4 nt dst = true) {v u : Value} (hv : VR σ v u) :
  TR σ nt (y8 tm dst v) (a.put dst u).tmps:=by
 cases dst with
 |none=>exact h
 |some d=>exact h.put (bI3 hd) hv
def bA3 (ih:T Value->Hp->Option (T Value×Hp))(tm:T Value)(dst:Option Tmp)(r:Option (Value×Hp)):Option (T Value×Hp):=
 Option.rec (motive:=fun _=>Option (T Value×Hp)) none (fun p=>Prod.rec (motive:=fun _=>Option (T Value×Hp)) (fun v hp=>(y8 tm dst v).force fun tm'=>ih tm' hp) p) r
def xone (P:Program)(call:d8)(nt:Nat)(all:List Oper)(o:Oper)(ih:T Value->Hp->Option (T Value×Hp))(tm:T Value)(hp:Hp):Option (T Value×Hp):=
 bif A4 nt o.dst then
  bif n8 all tm o then bA3 ih tm o.dst (xop P call tm hp o.op)
  else(y8 tm o.dst undef).force fun tm'=>ih tm' hp
 else none
def aF4 (P:Program)(call:d8)(nt:Nat)(all:List Oper)(l:List Oper):T Value->Hp->Option (T Value×Hp):=
 List.rec (motive:=fun _=>T Value->Hp->Option (T Value×Hp)) (fun tm hp=>some (tm,hp)) (fun o _ ih tm hp=>xone P call nt all o ih tm hp) l
theorem aF5 {P:Program}{call:d8}{nt:Nat}{all:List Oper}{tm:T Value}{hp:Hp}:aF4 P call nt all [] tm hp=some (tm,hp):=rfl
theorem Q2 {P : Program} {call : d8} {nt : Nat} {all rest : List Oper} {o : Oper} {tm : T Value} {hp : Hp} :
  aF4 P call nt all (o::rest) tm hp=bif A4 nt o.dst then
   bif n8 all tm o then
    match xop P call tm hp o.op with
    |some (v,hp')=>aF4 P call nt all rest (y8 tm o.dst v) hp'
    |none=>none
   else aF4 P call nt all rest (y8 tm o.dst undef) hp
  else none:=by
 show xone P call nt all o (aF4 P call nt all rest) tm hp=_;unfold xone;cases xop P call tm hp o.op with
 |none=>simp only[T.force_eq,bA3]
 |some r=>obtain⟨v,hp'⟩:=r;simp only[T.force_eq,bA3]
def ab7 (n:Nat)(B:BS)(w0:World)(σ:Sg)(nt:Nat)(e:Exit)(tm:T Value)(hp:Hp)(D:List Deferred):Exit->Act->World->Prop:=
 fun e' a' w'=>e'=e/\a'.defers=D/\ ∃σ',Sg.gr n hp.nx σ σ'/\TR σ' nt tm a'.tmps/\HR B w0 σ' hp w'
theorem ab7.le {B : BS} {w0 : World} {σ σ' : Sg} {n n1 : Nat} (h : Sg.gr n n1 σ σ') {nt : Nat} {e : Exit} {tm : T Value} {hp : Hp} {D : List Deferred} {e' : Exit} {a' : Act} {w' : World} (hp' : ab7 n1 B w0 σ' nt e tm hp D e' a' w') :
  ab7 n B w0 σ nt e tm hp D e' a' w':=by
 obtain⟨h1,h2,σ2,h3,h4,h5⟩:=hp';exact⟨h1,h2,σ2,Sg.gr_trans h h3,h4,h5⟩
theorem N9 {P:Program}{r:Option Nat}{ops:Array Oper}{Q Q':Exit->Act->World->Prop}(hq:∀e a w,Q e a w->Q' e a w):∀(l:List Nat) {a:Act} {w:World},wpOpsIn (RF r) 0 P ops Q l a w->wpOpsIn (RF r) 0 P ops Q' l a w:=by
 have hlet:LetsOut Q->LetsOut Q':=fun⟨a,w,h⟩=>⟨a,w,hq _ _ _ h⟩
 intro l
 induction l with
 |nil=>intro a w h;exact hq _ _ _ h
 |cons i rest ih=>
  intro a w h;simp only[wpOpsIn]at h⊢;cases ho:ops[i]? with
  |none=>grind
  |some o=>
   simp only[ho]at h;simp only;split
   ·rename_i hw
    simp only[hw,bR1]at h;unfold Oper.wpIn at h⊢;refine⟨h.1,?_⟩
    replace h:=h.2
    generalize (o.semAt (RF r).round a.eval).run P w=x at h⊢;cases x with
    |ok n w'=>
     cases n<;>simp only[Oper.uponIn]at h⊢ <;>first
      |exact ih h
      | (refine⟨h.1,CallsIn.mono h.2 fun e w'' he=>?_⟩;cases e<;>first|exact ih he|exact hq _ _ _ he|exact hlet he)
      |exact⟨h.1,RowsIn.mono h.2 fun v w'' he=>ih he⟩
      | (refine⟨h.1,RoundIn.mono h.2 fun e w'' he=>?_⟩;cases e<;>first|exact ih he|exact hq _ _ _ he|exact hlet he)
    |halt x w'=>cases x<;>simp only[Oper.uponIn]at h⊢ <;>exact hq _ _ _ h
   ·grind
theorem V1 {P:Program}{F:Fence}{k:Nat}{c:Code}{Q Q':Exit->Act->World->Prop}(hq:∀e a w,Q e a w->Q' e a w):∀ {n:Nat} {a:Act} {w:World},Code.roundsIn F k P c Q n a w->Code.roundsIn F k P c Q' n a w
 |0,_,_,h=>h.elim
 |n+1,_,_,h=>bS5 h fun e a w he=>by
  cases e with
  |normal=>exact V1 hq he
  |_=>exact hq _ _ _ he
section
variable {P :Program}{B:BS}{w0:World}{call:d8}
theorem TR.ER {σ:Sg}{nt:Nat}{tm:T Value}{a:Act}(h:TR σ nt tm a.tmps)(xs:Array Operand):∀x∈xs,∀v,a9 tm x=some v->VR σ v (a.eval x):=
 fun _ _ _ hv=>X4 h hv
theorem N3 (a:Act)(dst:Option Tmp)(v:Value):(a.put dst v).defers=a.defers:=by cases dst<;>rfl
theorem bf1 (hcall : E7 P call) {nt : Nat} (ops : Array Oper) (r : Option Nat) : ∀ (l : List Oper) (k : Nat) (tm : T Value) (hp : Hp) (tm' : T Value) (hp' : Hp) (σ : Sg) (a : Act) (w : World),
  (∀j,l[j]? =ops[k+j]?)->aF4 P call nt ops.toList l tm hp=some (tm',hp')->TR σ nt tm a.tmps->HR B w0 σ hp w-> ∀D,a.defers=D->
  wpOpsIn (RF r) 0 P ops (ab7 hp.nx B w0 σ nt .normal tm' hp' D) (List.range' k l.length) a w:=by
 intro l
 induction l with
 |nil=>
  intro k tm hp tm' hp' σ a w _ h ht hw D hd;simp only[aF5,bH9,bI1]at h;obtain⟨rfl,rfl⟩:=h;exact⟨rfl,hd,σ,Sg.gr_refl _ σ,ht,hw⟩
 |cons o l ih=>
  intro k tm hp tm' hp' σ a w hl h ht hw D hd;have ho:ops[k]? =some o:=by simpa using(hl 0).symm
  have hl':∀j,l[j]? =ops[k+1+j]? :=fun j=>by have:=hl (j+1);simpa [bN9,Nat.add_comm 1 j]using this
  rw[Q2]at h;simp only[bM2,List.range'_succ,wpOpsIn,ho];cases hdst:A4 nt o.dst with
  |false=>grind
  |true=>
   rw[hdst,bJ6]at h;rw[aF9 ht ops o];cases hwt:n8 ops.toList tm o with
   |true=>
    rw[hwt,bJ6]at h;rw[bK1 rfl];split at h
    ·rename_i v hp1 hx
     refine X5 hcall hx (ht.ER _) hw _ _ (fun σ' u w' hle hv hw'=>?_) r
     have ih':=ih (k+1) _ hp1 tm' hp' σ' (a.put o.dst u) w' hl' h ((ht.mono hle.le).putO hdst hv) hw' D (by rw[N3];exact hd)
     exact N9 (fun e a' w' hq=>ab7.le hle hq) _ ih'
    ·cases h
   |false=>
    rw[hwt,bJ7]at h;rw[bJ9 (by simp)]
    exact⟨fun _ _=>trivial,ih (k+1) _ hp tm' hp' σ _ w hl' h (ht.putO hdst (VR.undef σ)) hw D (by rw[N3];exact hd)⟩
end
inductive Df where
 |mark (r:Nat)
 |call (g:FuncId) (args cap:List Value)
def DfR (σ:Sg):Df->Deferred->Prop
 | .mark r,d=>∃p,σ r=some p/\d.target= .collected p.blk
 | .call g args cap,d=>∃cap',d.target= .fn (.func g) cap'/\VRL σ args d.args.toList/\VRL σ cap cap'.toList
def DsR (σ:Sg):List Df->List Deferred->Prop
 | [],[]=>True
 |x::xs,d::ds=>DfR σ x d/\DsR σ xs ds
 |_,_=>False
theorem DfR.mono {σ σ':Sg}(hs:Sg.le σ σ'){x:Df}{d:Deferred}(h:DfR σ x d):DfR σ' x d:=by
 cases x with
 |mark r=>obtain⟨p,h1,h2⟩:=h;exact⟨p,hs _ _ h1,h2⟩
 |call g args cap=>obtain⟨c,h1,h2,h3⟩:=h;exact⟨c,h1,h2.mono hs,h3.mono hs⟩
theorem DsR.mono {σ σ':Sg}(hs:Sg.le σ σ'):∀ {xs:List Df} {ds:List Deferred},DsR σ xs ds->DsR σ' xs ds
 | [],[],_=>trivial
 |_::_,_::_,h=>⟨h.1.mono hs,DsR.mono hs h.2⟩
 | [],_::_,h=>h.elim
 |_::_,[],h=>h.elim
def ArR (σ:Sg):Option Nat->Option Nat->Prop
 |none,none=>True
 |some j,some b=>∃p,σ j=some p/\p.blk=b
 |_,_=>False
theorem ArR.mono {σ σ':Sg}(hs:Sg.le σ σ'){ar r:Option Nat}(h:ArR σ ar r):ArR σ' ar r:=by
 cases ar<;>cases r<;>first|exact h| (obtain⟨p,h1,h2⟩:=h;exact⟨p,hs _ _ h1,h2⟩)
inductive XR where
 |mk (e:Exit) (tm:T Value) (hp:Hp) (ds:List Df)
abbrev F9:=d8->Nat->List Oper->T Value->Hp->Option (T Value×Hp)
def X9 (P:Program)(dr:F9):Prop:=
 ∀call,E7 P call-> ∀nt (ops:Array Oper) id tm hp tm' hp',dr call nt ops.toList tm hp=some (tm',hp')-> ∀B w0 σ a w,TR σ nt tm a.tmps->HR B w0 σ hp w-> ∀r,
  (Code.region id ops true).wpIn (RF r) 0 P (ab7 hp.nx B w0 σ nt .normal tm' hp' a.defers) a w
def aF6 (R:Option (Value×Hp))(l:Nat)(tm:T Value)(ds:List Df):Option XR:=
 match R with
 |some (_,hp)=>match hp.m.get l with
  |some (.loop .ready pend _ _ _ _ _ _)=>match pend with
   |none=>some (.mk .normal tm {hp with m:=hp.m.set l none} ds)
   |some _=>none
  |some (.loop .done pend _ _ _ _ _ _)=>match pend with
   |some .ret=>some (.mk .ret tm {hp with m:=hp.m.set l none} ds)
   |some (.exit id)=>some (.mk (.exit id) tm {hp with m:=hp.m.set l none} ds)
   |_=>none
  |_=>none
 |none=>none
def aa7 (P : Program) (call : d8) (nt : Nat) (ar : Option Nat) (f : Operand) (ps : Array Tmp) (assign body : Code) (tm : T Value) (hp : Hp) (ds : List Df) : Option XR :=
 match a9 tm f with
 | some (.func (.func g) first captured) => match P.funcs[g]? with
  | some fn => bif aq8 fn then
    match ar with
    |none=>aF6 (call.run g (first.toList++ [.chan (some (hp.nx+1))]++captured.toList) ⟨(hp.m.set hp.nx (some .dfr)).set (hp.nx+1) (some (.loop .ready none nt tm ps assign body hp.nx)),hp.nx+2⟩) (hp.nx+1) tm (.mark hp.nx::ds)
    |some j=>match hp.m.get j with
     |some (.loop _ _ _ _ _ _ _ db)=>aF6 (call.run g (first.toList++ [.chan (some hp.nx)]++captured.toList) ⟨hp.m.set hp.nx (some (.loop .ready none nt tm ps assign body db)),hp.nx+1⟩) hp.nx tm ds
     |_=>none
   else none
  |none=>none
 |_=>none
def be8 (tm:T Value)(c:Call):Option Df:=
 match c.callee with
 | .value f=>match a9 tm f with
  |some (.func (.func g) first captured)=>match ah4 tm c.args.toList with
   |some args=>some (.call g (first.toList++args) captured.toList)
   |none=>none
  |_=>none
 |_=>none
def aM0 :Op->Option Call
 | .defer c=>some c
 |_=>none
def ai5 (P:Program)(call:d8)(nt:Nat)(all:List Oper):List Oper->T Value->Hp->List Df->Option (T Value×Hp×List Df)
 | [],tm,hp,ds=>some (tm,hp,ds)
 |o::rest,tm,hp,ds=>
  bif A4 nt o.dst then
   bif n8 all tm o then
    match aM0 o.op with
    |some c=>match be8 tm c with
     |some d=>ai5 P call nt all rest (y8 tm o.dst undef) hp (d::ds)
     |none=>none
    |none=>match xop P call tm hp o.op with
     |some (v,hp')=>ai5 P call nt all rest (y8 tm o.dst v) hp' ds
     |none=>none
   else ai5 P call nt all rest (y8 tm o.dst undef) hp ds
  else none
def bk2 (P:Program)(call:d8)(nt:Nat)(ar:Option Nat)(ops:List Oper)(draw:Bool)(tm:T Value)(hp:Hp)(ds:List Df):Option XR:=
 match ar with
 |some _=>none
 |none=>bif draw then none else match ai5 P call nt ops ops tm hp ds with
  |some (tm',hp',ds')=>some (.mk .normal tm' hp' ds')
  |none=>none
def i9 (P:Program)(dr:F9)(call:d8)(nt:Nat)(ar:Option Nat):Nat->Code->T Value->Hp->List Df->Option XR
 |0,_,_,_,_=>none
 |m+1,c,tm,hp,ds=>match c with
  | .skip=>some (.mk .normal tm hp ds)
  | .label _=>some (.mk .normal tm hp ds)
  | .region _ ops draw=>match(bif draw then dr call nt ops.toList tm hp else aF4 P call nt ops.toList ops.toList tm hp)with
   |some (tm',hp')=>some (.mk .normal tm' hp' ds)
   |none=>bk2 P call nt ar ops.toList draw tm hp ds
  | .seq x y=>match i9 P dr call nt ar m x tm hp ds with
   |some (.mk .normal tm' hp' ds')=>i9 P dr call nt ar m y tm' hp' ds'
   |r=>r
  | .cond c x y=>match a9 tm c with
   |some (.bool true)=>i9 P dr call nt ar m x tm hp ds
   |some (.bool false)=>i9 P dr call nt ar m y tm hp ds
   |_=>none
  | .block id b=>match i9 P dr call nt ar m b tm hp ds with
   |some (.mk (.exit j) tm' hp' ds')=>bif Nat.beq j id then some (.mk .normal tm' hp' ds')else some (.mk (.exit j) tm' hp' ds')
   |r=>r
  | .loop b=>match i9 P dr call nt ar m b tm hp ds with
   |some (.mk .normal tm' hp' ds')=>i9 P dr call nt ar m (.loop b) tm' hp' ds'
   |r=>r
  | .exit id=>some (.mk (.exit id) tm hp ds)
  | .ret=>some (.mk .ret tm hp ds)
  | .scope b=>match i9 P dr call nt ar m b tm hp ds with
   |some (.mk .normal tm' hp' ds')=>some (.mk .normal tm' hp' ds')
   |some (.mk (.exit j) tm' hp' ds')=>some (.mk (.exit j) tm' hp' ds')
   |some (.mk .ret tm' hp' ds')=>some (.mk .ret tm' hp' ds')
   |_=>none
  | .rangeFunc f ps assign body=>aa7 P call nt ar f ps assign body tm hp ds
  |_=>none
def I5 (n:Nat)(B:BS)(w0:World)(σ:Sg)(nt:Nat)(e:Exit)(tm:T Value)(hp:Hp)(ds:List Df):Exit->Act->World->Prop:=
 fun e' a' w'=>e'=e/\ ∃σ',Sg.gr n hp.nx σ σ'/\DsR σ' ds a'.defers/\TR σ' nt tm a'.tmps/\HR B w0 σ' hp w'
theorem I5.le {B : BS} {w0 : World} {σ σ' : Sg} {n n1 : Nat} (h : Sg.gr n n1 σ σ') {nt : Nat} {e : Exit} {tm : T Value} {hp : Hp} {ds : List Df} {e' : Exit} {a' : Act} {w' : World} (hp' : I5 n1 B w0 σ' nt e tm hp ds e' a' w') :
  I5 n B w0 σ nt e tm hp ds e' a' w':=by
 obtain⟨h1,σ2,h3,h2,h4,h5⟩:=hp';exact⟨h1,σ2,Sg.gr_trans h h3,h2,h4,h5⟩
section
variable {P :Program}{B:BS}{w0:World}{call:d8}{dr:F9}
theorem K1 {b:Frame}{a:Act}{k:List Item}{cs:List Frame}{w:World}{c:Code}:step P (lone (b.atR a (.code (.scope c)::k)) cs w)= .next (lone (b.atR a (.code c:: .inScope c::k)) cs w):=
 step_lone_go (by simp[stepG,stepG.exec,Frame.atR])
theorem aG5 {b:Frame}{a:Act}{k:List Item}{cs:List Frame}{w:World}{c:Code}:step P (lone (b.atR a (.inScope c::k)) cs w)= .next (lone (b.atR a k) cs w):=
 step_lone_go (by simp[stepG,stepG.exec,Frame.atR])
theorem P0 {F:Fence}{n:Nat}{c:Code}{Q:Exit->Act->World->Prop}{a:Act}{w:World}(h:c.wpIn F n P (Exit.noGoto Q) a w):(Code.scope c).wpIn F n P Q a w:=by
 intro b k cs hro hb hr;have h0:(lone (b.atR a (.code (.scope c)::k)) cs w).fenced P F:=fenced_calm hb hr rfl;obtain⟨e,a₁,w₁,hq,harr⟩:=h b (.inScope c::k) cs hro hb hr;cases e with
 |normal=>exact⟨.normal,a₁,w₁,hq,.head h0 K1 (StepsIn.trans harr (.one (fenced_calm hb hr rfl) aG5))⟩
 |exit id=>
  have hx:exitTo id (.inScope c::k)=exitTo id k:=by simp[exitTo]
  exact⟨.exit id,a₁,w₁,hq,fun k' hk=>.head h0 K1 (harr.1 k' (by rw[hx];exact hk)),
   fun hr' hk=>let⟨k₁,h1,h2⟩:=harr.2 hr' (by rw[hx];exact hk);⟨k₁,h1,.head h0 K1 h2⟩⟩
 |goto l=>exact hq.elim
 |ret=>exact⟨_,a₁,w₁,hq,.of_steps (.one h0 K1) harr⟩
 |panic ch=>exact⟨_,a₁,w₁,hq,.of_steps (.one h0 K1) harr⟩
 |outgrown=>exact⟨_,a₁,w₁,hq,.of_steps (.one h0 K1) harr⟩
theorem HR.less {σ:Sg}{hp:Hp}{w:World}(h:HR B w0 σ hp w){m:T Blk}(hm:∀i b,m.get i=some b->hp.m.get i=some b):HR B w0 σ ⟨m,hp.nx⟩ w:=
 ⟨h.os,h.tape,h.output,h.size,h.old,h.kept,h.fresh,fun i b hg=>h.live i b (hm _ _ hg),
  fun i j b b' p q hi hj=>h.inj i j b b' p q (hm _ _ hi) (hm _ _ hj)⟩
theorem HR.drop {σ:Sg}{hp:Hp}{w:World}(h:HR B w0 σ hp w)(l:Nat):HR B w0 σ {hp with m:=hp.m.set l none} w:=by
 refine h.less fun i b hg=>?_
 have hg:(hp.m.set l none).get i=some b:=hg;rw[T.get_set]at hg
 grind
theorem ap4 (hcall : E7 P call) {g l : Nat} {xs : List Value} {tm : T Value} {hp : Hp} {ds : List Df} {e : Exit} {tm' : T Value} {hp' : Hp} {ds' : List Df} (h : aF6 (call.run g xs hp) l tm ds = some (.mk e tm' hp' ds'))
  {σ:Sg} {p:Pl} (hl:σ l=some p) {ys:List Value} (hv:VRL σ xs ys) {w:World} (hw:HR B w0 σ hp w) {nt:Nat} {a:Act} (ht:TR σ nt tm a.tmps) (hd:DsR σ ds a.defers) (r:Option Nat) (k:Nat):
  CallsIn (RF r) k P g ys.toArray w (rangePost (RF r) 0 P p.blk (I5 hp.nx B w0 σ nt e tm' hp' ds') a):=by
 unfold aF6 at h;split at h
 ·rename_i v hp1 hx
  have hc:=hcall.run g xs hp v hp1 hx B w0 σ w ys hv hw;refine(show CallsIn (RF r) k P g ys.toArray w _ from(callsIn_wide (n:=k)).2 hc).mono fun e' w1 he=>?_
  obtain ⟨σ1,u,rfl,gr,_,hw1⟩:=he;have hl1:=gr.le _ _ hl;have main : ∀ st pend nt' tms' ps' as' bo' db', hp1.m.get l = some (.loop st pend nt' tms' ps' as' bo' db') → st ≠ .busy →
    ∃w2,(Instr.endLoop p.blk).run P w1= .ok pend w2/\HR B w0 σ1 {hp1 with m:=hp1.m.set l none} w2:=by
   intro st pend nt' tms' ps' as' bo' db' hg hst;obtain⟨p',o,q1,q2,q3,q4⟩:=hw1.live l _ hg;have:p'=p:=bK5 (q1.symm.trans hl1);subst this;obtain⟨rec,rfl,k1,k2,k3,k4,k5,k6,k7⟩:=q4;refine⟨w1.putObj p'.blk (.loop {rec with state:= .exhausted}),?_,?_⟩
   ·rw[run_endLoop q3 (by rw[k1];exact hst),k2]
   ·have hs:=HR.setO (b':= .loop .exhausted pend nt' tms' ps' as' bo' db') hw1 hg q1 (o:= .loop {rec with state:= .exhausted}) ⟨_,rfl,rfl,k2,k3,k4,k5,k6,k7⟩
    have hs2:=HR.drop hs l;refine hs2.less fun i b hi=>?_
    have hi:(hp1.m.set l none).get i=some b:=hi;show((hp1.m.set l (some _)).set l none).get i=some b;rw[T.get_set]at hi⊢
    by_cases hil:i=l
    ·grind
    ·rw[bJ9 hil]at hi⊢
     rw[T.get_set,bJ9 hil];exact hi
  split at h
  ·rename_i pend nt' tms' ps' as' bo' db' hg
   obtain⟨w2,m1,m2⟩:=main _ _ _ _ _ _ _ _ hg (by simp)
   split at h
   ·simp only[bH9,XR.mk.injEq]at h
    obtain⟨rfl,rfl,rfl,rfl⟩:=h;exact⟨_,w2,m1,rfl,σ1,gr,hd.mono gr.le,ht.mono gr.le,m2⟩
   ·cases h
  ·rename_i pend nt' tms' ps' as' bo' db' hg
   obtain⟨w2,m1,m2⟩:=main _ _ _ _ _ _ _ _ hg (by simp)
   split at h
   ·simp only[bH9,XR.mk.injEq]at h
    obtain⟨rfl,rfl,rfl,rfl⟩:=h;exact⟨_,w2,m1,wpIn_ret ⟨rfl,σ1,gr,hd.mono gr.le,ht.mono gr.le,m2⟩⟩
   ·simp only[bH9,XR.mk.injEq]at h
    obtain⟨rfl,rfl,rfl,rfl⟩:=h;exact⟨_,w2,m1,wpIn_exit ⟨rfl,σ1,gr,hd.mono gr.le,ht.mono gr.le,m2⟩⟩
   ·cases h
  ·cases h
 ·cases h
theorem at4 (hcall : E7 P call) {nt : Nat} {ar : Option Nat} {f : Operand} {ps : Array Tmp} {assign body : Code} {tm : T Value} {hp : Hp} {ds : List Df} {e : Exit} {tm' : T Value} {hp' : Hp} {ds' : List Df}
  (h:aa7 P call nt ar f ps assign body tm hp ds=some (.mk e tm' hp' ds')) {σ:Sg} {a:Act} {w:World} {r:Option Nat} (ht:TR σ nt tm a.tmps) (hw:HR B w0 σ hp w) (hd:DsR σ ds a.defers) (har:ArR σ ar r):
  (Code.rangeFunc f ps assign body).wpIn (RF r) 0 P (I5 hp.nx B w0 σ nt e tm' hp' ds') a w:=by
 unfold aa7 at h;split at h
 ·rename_i g first captured hf
  have hfv:=X4 ht hf;generalize hfe:a.eval f=fe at hfv;cases hfv with
  |func _ _ ys _ cs q1 q2 q3 q4=>
  have vf:VRL σ first.toList ys.toList:=⟨by simpa using q1,fun i x y h1 h2=>q2 i x y (by simpa using h1) (by simpa using h2)⟩
  have vc:VRL σ captured.toList cs.toList:=⟨by simpa using q3,fun i x y h1 h2=>q4 i x y (by simpa using h1) (by simpa using h2)⟩
  split at h
  ·rename_i fn hfn
   cases ho:aq8 fn with
   |false=>rw[ho]at h;cases h
   |true=>
    rw[ho,bJ6]at h;have hres:∀l w,(resolve a.eval (rangeCall f l) 0).run P w= .ok {target:= .fn (.func g) cs,args:=ys++ #[Value.func (.yield l) #[] #[]]} w:=by
     intro l w;simp only[resolve,hfe,Deferred.ofValue,List.map_toArray,bN0,List.map_nil];rfl
    have hinv:∀l w,(invoke (.fn (.func g) cs) (ys++ #[Value.func (.yield l) #[] #[]])).run P w= .ok (.enter g (ys.toList++ [Value.func (.yield l) #[] #[]]++cs.toList).toArray) w:=by
     intro l w;have:(ys.toList++ [Value.func (.yield l) #[] #[]]++cs.toList).toArray=ys++ #[Value.func (.yield l) #[] #[]]++cs:=by apply bQ0;simp
     rw[this];exact Z3 hfn ho w
    split at h
    ·cases r with
     |some b=>exact har.elim
     |none=>
      refine wpIn_rangeFunc fun fn0 _=>?_
      let p0:Pl:=⟨w.heap.size,0,0,0⟩
      let p1:Pl:=⟨w.heap.size+1,0,0,0⟩
      have n0:σ hp.nx=none:=hw.fresh _ (bK2 _);have n1:(σ.ext hp.nx p0) (hp.nx+1)=none:=by rw[Sg.ext_other _ _ _ (by omega)];exact hw.fresh _ (by omega)
      have h1:=hw.allocO hp.nx (hp.nx+1) n0 (bP4 _) (bO0 _) .dfr (.deferred (some [])) p0 rfl rfl;have g1:Sg.gr hp.nx (hp.nx+1) σ (σ.ext hp.nx p0):=⟨Sg.le_ext p0 n0,fun i hi=>Sg.ext_other _ _ _ (by omega),bP4 _⟩
      have g2:Sg.gr (hp.nx+1) (hp.nx+2) (σ.ext hp.nx p0) ((σ.ext hp.nx p0).ext (hp.nx+1) p1):=⟨Sg.le_ext p1 n1,fun i hi=>Sg.ext_other _ _ _ (by omega),bP4 _⟩
      have g12:=Sg.gr_trans g1 g2;have e0:((σ.ext hp.nx p0).ext (hp.nx+1) p1) hp.nx=some p0:=g2.le _ _ (Sg.ext_same _ _ _);have h2:=h1.allocO (hp.nx+1) (hp.nx+2) n1 (bP4 _) (bO0 _) (.loop .ready none nt tm ps assign body hp.nx)
       (.loop {state:= .ready,pending:=none,fn:=fn0,tmps:=a.tmps,params:=ps,assign,body,defers:=w.heap.size}) p1 (by simp[p1])
       ⟨_,rfl,rfl,rfl,rfl,rfl,rfl,⟨ht.size,fun k=>(ht.at_ k).mono g12.le⟩,p0,e0,rfl⟩
      refine⟨_,_,_,_,_,_,_,_,run_enterLoop_outer fn0 a.tmps ps assign body,hres _ _,fun _ _=>trivial,hinv _ _,fun h=>(by cases h),?_⟩
      have hs:=ap4 (B:=B) (w0:=w0) hcall h (p:=p1) (Sg.ext_same _ _ _) ((vf.mono g12.le).append (VRL.cons (.yield (hp.nx+1) p1 (Sg.ext_same _ _ _)) (VRL.nil _))|>.append (vc.mono g12.le)) h2
       (a:= {a with defers:=[{target:= .collected w.heap.size,args:= #[]}]++a.defers}) (ht.mono g12.le) ⟨⟨p0,e0,rfl⟩,hd.mono g12.le⟩ none (0-1)
      refine hs.mono fun e' w' he=>?_
      cases e' with
      |returned v=>
       obtain⟨jump,w4,k1,k2⟩:=he;refine⟨jump,w4,k1,?_⟩;cases jump with
       |none=>exact I5.le g12 k2
       |some c=>exact bS5 k2 fun e a w hq=>I5.le g12 hq
      |panicked chain=>exact I5.le g12 he
      |outgrown=>obtain⟨a0,w5,hq⟩:=he;exact⟨a0,w5,I5.le g12 hq⟩
    ·rename_i j
     cases r with
     |none=>exact har.elim
     |some b=>
      obtain⟨pj,hj,rfl⟩:=har;split at h
      ·rename_i st0 pend0 nt0 tms0 ps0 as0 bo0 db hg
       obtain⟨pj',o,u1,u2,u3,u4⟩:=hw.live j _ hg;have:pj'=pj:=bK5 (u1.symm.trans hj);subst this;obtain⟨rec,rfl,k1,k2,k3,k4,k5,k6,q,k7,k8⟩:=u4;refine wpIn_rangeFunc fun fn0 _=>?_
       let p1:Pl:=⟨w.heap.size,0,0,0⟩
       have n0:σ hp.nx=none:=hw.fresh _ (bK2 _);have g1:Sg.gr hp.nx (hp.nx+1) σ (σ.ext hp.nx p1):=⟨Sg.le_ext p1 n0,fun i hi=>Sg.ext_other _ _ _ (by omega),bP4 _⟩
       have h2:=hw.allocO hp.nx (hp.nx+1) n0 (bP4 _) (bO0 _) (.loop .ready none nt tm ps assign body db)
        (.loop {state:= .ready,pending:=none,fn:=fn0,tmps:=a.tmps,params:=ps,assign,body,defers:=rec.defers}) p1 rfl
        ⟨_,rfl,rfl,rfl,rfl,rfl,rfl,⟨ht.size,fun k=>(ht.at_ k).mono g1.le⟩,q,g1.le _ _ k7,k8⟩
       refine⟨_,_,_,_,_,_,_,_,run_enterLoop_inner u3 fn0 a.tmps ps assign body,hres _ _,fun _ _=>trivial,hinv _ _,fun h=>(by cases h),?_⟩
       have hs:=ap4 (B:=B) (w0:=w0) hcall h (p:=p1) (Sg.ext_same _ _ _) ((vf.mono g1.le).append (VRL.cons (.yield hp.nx p1 (Sg.ext_same _ _ _)) (VRL.nil _))|>.append (vc.mono g1.le)) h2
        (a:= {a with defers:=[]++a.defers}) (ht.mono g1.le) (hd.mono g1.le) (some pj'.blk) (0-1)
       refine hs.mono fun e' w' he=>?_
       cases e' with
       |returned v=>
        obtain⟨jump,w4,k1,k2⟩:=he;refine⟨jump,w4,k1,?_⟩;cases jump with
        |none=>exact I5.le g1 k2
        |some c=>exact bS5 k2 fun e a w hq=>I5.le g1 hq
       |panicked chain=>exact I5.le g1 he
       |outgrown=>obtain⟨a0,w5,hq⟩:=he;exact⟨a0,w5,I5.le g1 hq⟩
      ·cases h
  ·cases h
 ·cases h
theorem aP5 {σ : Sg} {nt : Nat} {tm : T Value} {c : Call} {d : Df} (h : be8 tm c = some d) {a : Act} (ht : TR σ nt tm a.tmps) (ty : TypeId) (w : World) :
  ∃d',(resolve a.eval c ty).run P w= .ok d' w/\DfR σ d d':=by
 obtain⟨callee,cargs,cats⟩:=c;unfold be8 at h;cases callee with
 |builtin b=>cases h
 |invoke r m=>cases h
 |value f=>
  simp only at h;split at h
  ·rename_i g first captured hf
   have hfv:=X4 ht hf;generalize hfe:a.eval f=fe at hfv;cases hfv with
   |func _ _ ys _ cs q1 q2 q3 q4=>
   split at h
   ·rename_i args hargs
    cases h;have vf:VRL σ first.toList ys.toList:=⟨by simpa using q1,fun i x y h1 h2=>q2 i x y (by simpa using h1) (by simpa using h2)⟩
    have vc:VRL σ captured.toList cs.toList:=⟨by simpa using q3,fun i x y h1 h2=>q4 i x y (by simpa using h1) (by simpa using h2)⟩
    have va:=ao7 (fun y _ v hv=>X4 ht hv) hargs
    refine⟨{target:= .fn (.func g) cs,args:=ys++cargs.map a.eval},?_,cs,rfl,?_,vc⟩
    ·simp only[resolve,hfe,Deferred.ofValue]
     rfl
    ·have:(ys++cargs.map a.eval).toList=ys.toList++cargs.toList.map a.eval:=by simp
     rw[this];exact vf.append va
   ·cases h
  ·cases h
theorem aY6 (hcall : E7 P call) {nt : Nat} (ops : Array Oper) : ∀ (l : List Oper) (k : Nat) (tm : T Value) (hp : Hp) (ds : List Df) (tm' : T Value) (hp' : Hp) (ds' : List Df) (σ : Sg) (a : Act) (w : World),
  (∀j,l[j]? =ops[k+j]?)->ai5 P call nt ops.toList l tm hp ds=some (tm',hp',ds')->TR σ nt tm a.tmps->HR B w0 σ hp w->DsR σ ds a.defers->
  wpOpsIn (RF none) 0 P ops (I5 hp.nx B w0 σ nt .normal tm' hp' ds') (List.range' k l.length) a w:=by
 intro l
 induction l with
 |nil=>
  intro k tm hp ds tm' hp' ds' σ a w _ h ht hw hd;simp only[ai5,bH9,bI1]at h;obtain⟨rfl,rfl,rfl⟩:=h;exact⟨rfl,σ,Sg.gr_refl _ σ,hd,ht,hw⟩
 |cons o l ih=>
  intro k tm hp ds tm' hp' ds' σ a w hl h ht hw hd;have ho:ops[k]? =some o:=by simpa using(hl 0).symm
  have hl':∀j,l[j]? =ops[k+1+j]? :=fun j=>by have:=hl (j+1);simpa [bN9,Nat.add_comm 1 j]using this
  simp only[ai5]at h;simp only[bM2,List.range'_succ,wpOpsIn,ho];cases hdst:A4 nt o.dst with
  |false=>grind
  |true=>
   rw[hdst,bJ6]at h;rw[aF9 ht ops o];cases hwt:n8 ops.toList tm o with
   |true=>
    rw[hwt,bJ6]at h;rw[bK1 rfl];split at h
    ·rename_i c hc
     split at h
     ·rename_i d hdf
      obtain⟨d',h1,h2⟩:=aP5 (P:=P) hdf ht o.type w;have hop:o.op= .defer c:=by
       unfold aM0 at hc
       grind
      refine⟨fun _ _=>trivial,?_⟩
      have hrun:(o.semAt (RF none).round a.eval).run P w= .ok (.defer d') w:=by
       show(o.semAt none a.eval).run P w=_;rw[Oper.semAt_none];unfold execOp
       simp_all
      rw[hrun,Oper.uponIn_defer];exact ih (k+1) _ hp (d::ds) tm' hp' ds' σ _ w hl' h (TR.putO (a:= {a with defers:=d'::a.defers}) ht hdst (VR.undef σ)) hw (by rw[N3];exact⟨h2,hd⟩)
     ·cases h
    ·split at h
     ·rename_i v hp1 hx
      refine X5 hcall hx (ht.ER _) hw _ _ (fun σ' u w' hle hv hw'=>?_) none
      have ih':=ih (k+1) _ hp1 ds tm' hp' ds' σ' (a.put o.dst u) w' hl' h ((ht.mono hle.le).putO hdst hv) hw' (by rw[N3];exact hd.mono hle.le)
      exact N9 (fun e a' w' hq=>I5.le hle hq) _ ih'
     ·cases h
   |false=>
    rw[hwt,bJ7]at h;rw[bJ9 (by simp)]
    exact⟨fun _ _=>trivial,ih (k+1) _ hp ds tm' hp' ds' σ _ w hl' h (ht.putO hdst (VR.undef σ)) hw (by rw[N3];exact hd)⟩
theorem av8 (hcall : E7 P call) {nt : Nat} {ar : Option Nat} {ops : Array Oper} {draw : Bool} {id : Nat} {tm : T Value} {hp : Hp} {ds : List Df} {e : Exit} {tm' : T Value} {hp' : Hp} {ds' : List Df}
  (h:bk2 P call nt ar ops.toList draw tm hp ds=some (.mk e tm' hp' ds')) {σ:Sg} {a:Act} {w:World} {r:Option Nat} (ht:TR σ nt tm a.tmps) (hw:HR B w0 σ hp w) (hd:DsR σ ds a.defers) (har:ArR σ ar r):
  (Code.region id ops draw).wpIn (RF r) 0 P (I5 hp.nx B w0 σ nt e tm' hp' ds') a w:=by
 cases ar with
 |some j=>cases h
 |none=>
  cases r with
  |some b=>exact har.elim
  |none=>
   cases draw with
   |true=>cases h
   |false=>
    simp only[bk2,bJ7]at h;split at h
    ·rename_i tm1 hp1 ds1 hx
     cases h;refine wpIn_region ?_;have:=aY6 (B:=B) (w0:=w0) hcall ops ops.toList 0 tm hp ds _ _ _ σ a w (by simp) hx ht hw hd
     rw[List.range_eq_range']
     grind
    ·cases h
theorem O2 (hcall : E7 P call) (hdr : X9 P dr) {nt : Nat} {ar : Option Nat} : ∀ (m : Nat),
  (∀(c:Code) (tm:T Value) (hp:Hp) (ds:List Df) (e:Exit) (tm':T Value) (hp':Hp) (ds':List Df) (σ:Sg) (a:Act) (w:World) (r:Option Nat),i9 P dr call nt ar m c tm hp ds=some (.mk e tm' hp' ds')->TR σ nt tm a.tmps->HR B w0 σ hp w->DsR σ ds a.defers->ArR σ ar r->
   c.wpIn (RF r) 0 P (I5 hp.nx B w0 σ nt e tm' hp' ds') a w)/\
  (∀(c:Code) (tm:T Value) (hp:Hp) (ds:List Df) (e:Exit) (tm':T Value) (hp':Hp) (ds':List Df) (σ:Sg) (a:Act) (w:World) (r:Option Nat),i9 P dr call nt ar m (.loop c) tm hp ds=some (.mk e tm' hp' ds')->TR σ nt tm a.tmps->HR B w0 σ hp w->DsR σ ds a.defers->ArR σ ar r->
   Code.roundsIn (RF r) 0 P c (I5 hp.nx B w0 σ nt e tm' hp' ds') m a w):=by
 intro m
 induction m with
 |zero=>exact⟨fun c tm hp ds e tm' hp' ds' σ a w r h=>(by simp[i9]at h),fun c tm hp ds e tm' hp' ds' σ a w r h=>(by simp[i9]at h)⟩
 | succ m ih =>
  obtain ⟨ih1,ih2⟩:=ih;have hloop : ∀ (c : Code) (tm : T Value) (hp : Hp) (ds : List Df) (e : Exit) (tm' : T Value) (hp' : Hp) (ds' : List Df) (σ : Sg) (a : Act) (w : World) (r : Option Nat), i9 P dr call nt ar (m + 1) (.loop c) tm hp ds = some (.mk e tm' hp' ds') → TR σ nt tm a.tmps → HR B w0 σ hp w → DsR σ ds a.defers → ArR σ ar r →
    Code.roundsIn (RF r) 0 P c (I5 hp.nx B w0 σ nt e tm' hp' ds') (m+1) a w:=by
   intro c tm hp ds e tm' hp' ds' σ a w r h ht hw hd har;simp only[i9]at h;rw[roundsIn_succ];cases hb:i9 P dr call nt ar m c tm hp ds with
   |none=>grind
   |some rr=>
    obtain⟨e1,tm1,hp1,ds1⟩:=rr;refine bS5 (ih1 c tm hp ds e1 tm1 hp1 ds1 σ a w r hb ht hw hd har) fun e' a' w' hq=>?_
    obtain⟨rfl,σ',hle,hd',ht',hw'⟩:=hq;cases e' with
    |normal=>
     simp only[hb]at h;exact V1 (fun e a w hq=>I5.le hle hq) (ih2 c tm1 hp1 ds1 e tm' hp' ds' σ' a' w' r h ht' hw' hd' (har.mono hle.le))
    |exit id=>simp only[hb,bH9,XR.mk.injEq]at h;obtain⟨rfl,rfl,rfl,rfl⟩:=h;exact⟨rfl,σ',hle,hd',ht',hw'⟩
    |goto id=>simp only[hb,bH9,XR.mk.injEq]at h;obtain⟨rfl,rfl,rfl,rfl⟩:=h;exact⟨rfl,σ',hle,hd',ht',hw'⟩
    |ret=>simp only[hb,bH9,XR.mk.injEq]at h;obtain⟨rfl,rfl,rfl,rfl⟩:=h;exact⟨rfl,σ',hle,hd',ht',hw'⟩
    |panic ch=>simp only[hb,bH9,XR.mk.injEq]at h;obtain⟨rfl,rfl,rfl,rfl⟩:=h;exact⟨rfl,σ',hle,hd',ht',hw'⟩
    |outgrown=>simp only[hb,bH9,XR.mk.injEq]at h;obtain⟨rfl,rfl,rfl,rfl⟩:=h;exact⟨rfl,σ',hle,hd',ht',hw'⟩
  refine⟨?_,hloop⟩;intro c tm hp ds e tm' hp' ds' σ a w r h ht hw hd har;cases c with
  |skip=>
   simp only[i9,bH9,XR.mk.injEq]at h;obtain⟨rfl,rfl,rfl,rfl⟩:=h;exact wpIn_skip ⟨rfl,σ,Sg.gr_refl _ σ,hd,ht,hw⟩
  |label l=>
   simp only[i9,bH9,XR.mk.injEq]at h;obtain⟨rfl,rfl,rfl,rfl⟩:=h;exact wpIn_label ⟨rfl,σ,Sg.gr_refl _ σ,hd,ht,hw⟩
  |exit id=>
   simp only[i9,bH9,XR.mk.injEq]at h;obtain⟨rfl,rfl,rfl,rfl⟩:=h;exact wpIn_exit ⟨rfl,σ,Sg.gr_refl _ σ,hd,ht,hw⟩
  |ret=>
   simp only[i9,bH9,XR.mk.injEq]at h;obtain⟨rfl,rfl,rfl,rfl⟩:=h;exact wpIn_ret ⟨rfl,σ,Sg.gr_refl _ σ,hd,ht,hw⟩
  |region id ops draw=>
   simp only[i9]at h;cases draw with
   |true=>
    simp only[bJ6]at h;split at h
    ·rename_i tm1 hp1 hr
     cases h;exact bS5 (hdr call hcall nt ops id tm hp _ _ hr B w0 σ a w ht hw r) fun e' a' w' hq=>by
      obtain⟨h1,h2,σ',h3,h4,h5⟩:=hq;exact⟨h1,σ',h3,by rw[h2];exact hd.mono h3.le,h4,h5⟩
    ·exact av8 hcall h ht hw hd har
   |false=>
    simp only[bJ7]at h;split at h
    ·rename_i tm1 hp1 hr
     simp only[bH9,XR.mk.injEq]at h;obtain⟨rfl,rfl,rfl,rfl⟩:=h;refine bS5 (Q:=ab7 hp.nx B w0 σ nt .normal tm1 hp1 a.defers) (wpIn_region ?_) fun e' a' w' hq=>by
      obtain⟨h1,h2,σ',h3,h4,h5⟩:=hq;exact⟨h1,σ',h3,by rw[h2];exact hd.mono h3.le,h4,h5⟩
     have:=bf1 (B:=B) (w0:=w0) hcall ops r ops.toList 0 tm hp _ _ σ a w (by simp) hr ht hw a.defers rfl
     rw[List.range_eq_range']
     grind
    ·exact av8 hcall h ht hw hd har
  |seq x y=>
   simp only[i9]at h;cases hb:i9 P dr call nt ar m x tm hp ds with
   |none=>grind
   |some rr=>
    obtain⟨e1,tm1,hp1,ds1⟩:=rr;refine wpIn_seq (bS5 (ih1 x tm hp ds e1 tm1 hp1 ds1 σ a w r hb ht hw hd har) fun e' a' w' hq=>?_)
    obtain⟨rfl,σ',hle,hd',ht',hw'⟩:=hq;cases e' with
    |normal=>
     simp only[hb]at h;exact bS5 (ih1 y tm1 hp1 ds1 e tm' hp' ds' σ' a' w' r h ht' hw' hd' (har.mono hle.le)) (fun e a w hq=>I5.le hle hq)
    |exit id=>simp only[hb,bH9,XR.mk.injEq]at h;obtain⟨rfl,rfl,rfl,rfl⟩:=h;exact⟨rfl,σ',hle,hd',ht',hw'⟩
    |goto id=>simp only[hb,bH9,XR.mk.injEq]at h;obtain⟨rfl,rfl,rfl,rfl⟩:=h;exact⟨rfl,σ',hle,hd',ht',hw'⟩
    |ret=>simp only[hb,bH9,XR.mk.injEq]at h;obtain⟨rfl,rfl,rfl,rfl⟩:=h;exact⟨rfl,σ',hle,hd',ht',hw'⟩
    |panic ch=>simp only[hb,bH9,XR.mk.injEq]at h;obtain⟨rfl,rfl,rfl,rfl⟩:=h;exact⟨rfl,σ',hle,hd',ht',hw'⟩
    |outgrown=>simp only[hb,bH9,XR.mk.injEq]at h;obtain⟨rfl,rfl,rfl,rfl⟩:=h;exact⟨rfl,σ',hle,hd',ht',hw'⟩
  |cond c x y=>
   simp only[i9]at h;split at h
   ·rename_i hc
    have hcv:=X4 ht hc;generalize hce:a.eval c=cv at hcv;cases hcv;exact wpIn_cond_true hce (ih1 x tm hp ds e tm' hp' ds' σ a w r h ht hw hd har)
   ·rename_i hc
    have hcv:=X4 ht hc;generalize hce:a.eval c=cv at hcv;cases hcv;exact wpIn_cond_false hce (ih1 y tm hp ds e tm' hp' ds' σ a w r h ht hw hd har)
   ·cases h
  |block id b=>
   simp only[i9]at h;cases hb:i9 P dr call nt ar m b tm hp ds with
   |none=>grind
   |some rr=>
    obtain⟨e1,tm1,hp1,ds1⟩:=rr;refine wpIn_block (bS5 (ih1 b tm hp ds e1 tm1 hp1 ds1 σ a w r hb ht hw hd har) fun e' a' w' hq=>?_)
    obtain⟨rfl,σ',hle,hd',ht',hw'⟩:=hq;cases e' with
    |normal=>simp only[hb,bH9,XR.mk.injEq]at h;obtain⟨rfl,rfl,rfl,rfl⟩:=h;exact⟨rfl,σ',hle,hd',ht',hw'⟩
    |exit j=>
     simp only[hb]at h
     by_cases hj:j=id
     ·subst hj
      rw[t7 rfl,bJ6]at h;cases h;simp only[Exit.inBlock,bR1];exact⟨rfl,σ',hle,hd',ht',hw'⟩
     ·rw[u9 hj,bJ7]at h
      cases h;simp only[Exit.inBlock,hj,bR0];exact⟨rfl,σ',hle,hd',ht',hw'⟩
    |goto id=>simp only[hb,bH9,XR.mk.injEq]at h;obtain⟨rfl,rfl,rfl,rfl⟩:=h;exact⟨rfl,σ',hle,hd',ht',hw'⟩
    |ret=>simp only[hb,bH9,XR.mk.injEq]at h;obtain⟨rfl,rfl,rfl,rfl⟩:=h;exact⟨rfl,σ',hle,hd',ht',hw'⟩
    |panic ch=>simp only[hb,bH9,XR.mk.injEq]at h;obtain⟨rfl,rfl,rfl,rfl⟩:=h;exact⟨rfl,σ',hle,hd',ht',hw'⟩
    |outgrown=>simp only[hb,bH9,XR.mk.injEq]at h;obtain⟨rfl,rfl,rfl,rfl⟩:=h;exact⟨rfl,σ',hle,hd',ht',hw'⟩
  |loop b=>exact wpIn_loop_rounds (m+1) (hloop b tm hp ds e tm' hp' ds' σ a w r h ht hw hd har)
  |rangeFunc f ps x y=>exact at4 hcall (by simpa only[i9]using h) ht hw hd har
  |scope b=>
   simp only[i9]at h;cases hb:i9 P dr call nt ar m b tm hp ds with
   |none=>grind
   |some rr=>
    obtain⟨e1,tm1,hp1,ds1⟩:=rr;refine P0 (bS5 (ih1 b tm hp ds e1 tm1 hp1 ds1 σ a w r hb ht hw hd har) fun e' a' w' hq=>?_)
    obtain⟨rfl,σ',hle,hd',ht',hw'⟩:=hq;cases e' with
    |normal=>simp only[hb,bH9,XR.mk.injEq]at h;obtain⟨rfl,rfl,rfl,rfl⟩:=h;exact⟨rfl,σ',hle,hd',ht',hw'⟩
    |exit id=>simp only[hb,bH9,XR.mk.injEq]at h;obtain⟨rfl,rfl,rfl,rfl⟩:=h;exact⟨rfl,σ',hle,hd',ht',hw'⟩
    |goto id=>grind
    |ret=>simp only[hb,bH9,XR.mk.injEq]at h;obtain⟨rfl,rfl,rfl,rfl⟩:=h;exact⟨rfl,σ',hle,hd',ht',hw'⟩
    |panic ch=>grind
    |outgrown=>grind
  |goto l=>simp only[i9,reduceCtorEq]at h
  |refuse s=>simp only[i9,reduceCtorEq]at h
end
def ag9 (P:Program)(tm:T Value)(hp:Hp):ResultVar->Option Value
 | .tmp t=>some ((tm.get t).getD undef)
 | .cell a t=>O3 P hp t ((tm.get a).getD undef)
def F7 (P:Program)(tm:T Value)(hp:Hp):List ResultVar->Option (List Value)
 | []=>some []
 |r::rs=>match ag9 P tm hp r with
  |some v=>match F7 P tm hp rs with
   |some vs=>some (v::vs)
   |none=>none
  |none=>none
def af2 :List Value->Value
 | [v]=>v
 |vs=>.tuple vs.toArray
section
variable {P :Program}{B:BS}{w0:World}
theorem bq5 {σ : Sg} {hp : Hp} {w : World} {t : TypeId} {a a' v : Value} (h : O3 P hp t a = some v) (ha : VR σ a a') (hw : HR B w0 σ hp w) :
  ∃u,VR σ v u/\(do loadVar t (<-asAddr a'):Sem Value).run P w= .ok u w:=by
 obtain⟨u,h1,h2⟩:=av7 h ha hw;refine⟨u,h1,?_⟩;rw[<-h2];cases ha<;>first|rfl| (simp[O3]at h)
def aJ9 (tmps:Array Value):ResultVar->Sem Value
 | .tmp t=>pure (tmps.getD t undef)
 | .cell a t=>do loadVar t (<-asAddr (tmps.getD a undef))
theorem M5 {σ : Sg} {hp : Hp} {w : World} {nt : Nat} {tm : T Value} {tmps : Array Value} (ht : TR σ nt tm tmps) (hw : HR B w0 σ hp w) :
  ∀ {rs:List ResultVar} {vs:List Value},F7 P tm hp rs=some vs->
  ∃us,VRL σ vs us/\(rs.mapM (aJ9 tmps):Sem (List Value)).run P w= .ok us w
 | [],vs,h=>by simp only[F7,bH9]at h;subst h;exact⟨[],VRL.nil σ,by simp⟩
 |r::rs,vs,h=>by
  simp only[F7]at h;cases hr:ag9 P tm hp r with
  |none=>grind
  |some v=>
   cases hrs:F7 P tm hp rs with
   |none=>grind
   |some vs'=>
    simp only[hr,hrs,bH9]at h;subst h;obtain⟨us,h1,h2⟩:=M5 ht hw hrs;cases r with
    |tmp t=>
     simp only[ag9,bH9]at hr;subst hr;refine⟨_::us,VRL.cons (ht.at_ t) h1,?_⟩;rw[List.mapM_cons];simp only[aJ9,bK8,bL3,bK4,h2]
    |cell a t=>
     simp only[ag9]at hr;obtain⟨u,h3,h4⟩:=bq5 hr (ht.at_ a) hw;refine⟨u::us,VRL.cons h3 h1,?_⟩;rw[List.mapM_cons,bK8];have h4':(aJ9 tmps (.cell a t)).run P w= .ok u w:=h4
     simp_all
theorem TR.start {σ : Sg} {args args' : List Value} (h : VRL σ args args') (n : Nat) :
  TR σ (args.length+(n-args.length)) (fill .e 0 args) (args'.toArray++Array.replicate (n-args'.toArray.size) undef):=by
 have hl:=h.1;refine⟨by simp[hl],fun k=>?_⟩
 rw[l6]
 by_cases hk:k<args.length
 ·rw[bK1 (by omega)]
  have hk':k<args'.length:=by omega
  have e1:args[k-0]? =some args[k]:=by simp[hk]
  have e2:(args'.toArray++Array.replicate (n-args'.toArray.size) undef).getD k undef=args'[k]:=by
   simp[Array.getElem?_append,hk']
  rw[e1,e2];exact h.2 k _ _ (by simp[hk]) (by simp[hk'])
 ·rw[bJ9 (by omega)]
  have e2:(args'.toArray++Array.replicate (n-args'.toArray.size) undef).getD k undef=undef:=by
   have hk':¬k<args'.length:=by omega
   simp only[Array.getD_eq_getD_getElem?,Array.getElem?_append,List.size_toArray,hk',bR0,Array.getElem?_replicate]
   grind
  rw[e2];rw[T.get_e];exact VR.undef σ
end
end Go.Xe
end PartXm11
noncomputable section PartXm12
namespace Go.Xe
open Go.RowKit
def d6 :Op->Nat
 | .move _| .assign _| .pick _ _ _| .build _ _| .nilCheck _| .binOp _ _ _ _ _| .unOp _ _ _| .convert _ _ _| .makeInterface _ _| .makeFunc _ _ _
 | .fieldAddr _ _ _| .field _ _ _| .indexAddr _ _ _| .index _ _ _| .extract _ _=>0
 | .load _ _| .slice _ _ _ _ _| .lookup _ _ _ _| .call ⟨.builtin .len,_,_⟩=>1
 | .alloc _| .box _ _| .buildSlice _ _ _| .makeSlice _ _ _| .makeMap _ _| .range _ _=>2
 | .call ⟨.builtin .cap,_,_⟩| .call ⟨.builtin .min,_,_⟩| .call ⟨.builtin .max,_,_⟩=>0
 |_=>3
theorem aF3 {P:Program}{call:d8}{tm:T Value}{o:Op}(h:d6 o=0):∃r:Option Value,∀hp,xop P call tm hp o=f7 hp r:=by
 cases o with
 |move x=>exact⟨_,fun _=>rfl⟩
 |assign x=>exact⟨_,fun _=>rfl⟩
 |pick c a b=>
  simp only[c6,k9];split
  ·rename_i t _
   cases t<;>exact⟨_,fun _=>rfl⟩
  ·exact⟨none,fun _=>rfl⟩
 |build t ps=>simp only[c6,k9];split<;>first|exact⟨_,fun _=>rfl⟩|exact⟨none,fun _=>rfl⟩
 |nilCheck x=>
  simp only[c6,k9];split
  ·exact⟨some _,fun _=>rfl⟩
  ·exact⟨some _,fun _=>rfl⟩
  ·exact⟨none,fun _=>rfl⟩
 |binOp op t x y yt=>
  simp only[c6,k9];split
  ·split<;>first|exact⟨_,fun _=>rfl⟩|exact⟨none,fun _=>rfl⟩
  ·exact⟨none,fun _=>rfl⟩
 |unOp op t x=>simp only[c6,k9];split<;>first|exact⟨_,fun _=>rfl⟩|exact⟨none,fun _=>rfl⟩
 |convert s d x=>simp only[c6,k9];split<;>first|exact⟨_,fun _=>rfl⟩|exact⟨none,fun _=>rfl⟩
 |makeInterface t x=>simp only[c6,k9];split<;>first|exact⟨_,fun _=>rfl⟩|exact⟨none,fun _=>rfl⟩
 |makeFunc f a b=>
  simp only[c6,k9];split
  ·split<;>first|exact⟨some _,fun _=>rfl⟩|exact⟨none,fun _=>rfl⟩
  ·exact⟨none,fun _=>rfl⟩
 |fieldAddr t x f=>simp only[c6,k9];split<;>first|exact⟨_,fun _=>rfl⟩|exact⟨none,fun _=>rfl⟩
 |field t x f=>simp only[c6,k9];split<;>first|exact⟨_,fun _=>rfl⟩|exact⟨none,fun _=>rfl⟩
 |indexAddr t x i=>
  simp only[c6,k9];split
  ·split<;>first|exact⟨_,fun _=>rfl⟩|exact⟨none,fun _=>rfl⟩
  ·exact⟨none,fun _=>rfl⟩
 |index t x i=>
  simp only[c6,k9];split
  ·split<;>first|exact⟨_,fun _=>rfl⟩|exact⟨none,fun _=>rfl⟩
  ·exact⟨none,fun _=>rfl⟩
 |extract x i=>simp only[c6,k9];split<;>first|exact⟨_,fun _=>rfl⟩|exact⟨none,fun _=>rfl⟩
 |call c=>
  obtain⟨callee,args,ats⟩:=c;cases callee with
  |value f=>simp[d6]at h
  |invoke r m=>simp[d6]at h
  |builtin b=>
   simp only[c6,k9];split
   ·rename_i vs _
    generalize ats.toList=tl;cases b<;>first
     | (simp[d6]at h;done)
     | (rcases tl with _| ⟨t,_| ⟨u,r⟩⟩<;>rcases vs with _| ⟨x,_| ⟨y,r2⟩⟩<;>first|exact⟨_,fun _=>rfl⟩|exact⟨none,fun _=>rfl⟩)
   ·exact⟨none,fun _=>rfl⟩
 |_=>simp[d6]at h
def xrd (P:Program)(tm:T Value)(hp:Hp)(o:Op):Option Value:=
 match xop P ⟨fun _ _ _=>none,fun _=>none,fun _ _ _=>none⟩ tm hp o with
 |some (v,hp')=>bif Nat.beq hp'.nx hp.nx then some v else none
 |none=>none
theorem aw1 {P:Program}{hp hp':Hp}{t:TypeId}{x v:Value}{lo hi mx:Option Value}(h:q9 P hp t x lo hi mx=some (v,hp')):hp'=hp:=by
 have key:∀ {a:Value} {q:Hp},some (a,q)=some (v,hp')->q=hp->hp'=hp:=by
  intro a q e1 e2;simp only[bH9,bI1]at e1;rw[<-e1.2,e2]
 have bi:∀ {b:Bool} {x y:Option (Value×Hp)},(bif b then x else y)=some (v,hp')->(x=some (v,hp')->hp'=hp)->(y=some (v,hp')->hp'=hp)->hp'=hp:=by
  intro b x y e h1 h2;cases b
  ·exact h2 e
  ·exact h1 e
 unfold q9 at h;split at h
 ·split at h
  ·split at h
   ·cases h
   ·split at h
    ·exact key h rfl
    ·cases h
  ·cases h
 ·split at h
  ·cases h
  ·split at h
   ·refine bi h (fun h=>?_) (fun h=>by cases h)
    split at h
    ·exact key h rfl
    ·cases h
   ·split at h
    ·exact key h rfl
    ·cases h
   ·refine bi h (fun h=>?_) (fun h=>?_)
    ·refine bi h (fun h=>?_) (fun h=>by cases h)
     split at h
     ·cases h
     ·refine bi h (fun h=>key h rfl) (fun h=>key h rfl)
     ·refine bi h (fun h=>key h rfl) (fun h=>?_)
      refine bi h (fun h=>key h rfl) (fun h=>?_)
      ·split at h
       ·exact bi h (fun h=>key h rfl) (fun h=>by cases h)
       ·cases h
    ·refine bi h (fun h=>?_) (fun h=>by cases h)
     split at h
     ·cases h
     ·exact bi h (fun h=>key h rfl) (fun h=>key h rfl)
   ·cases h
 ·split at h
  ·cases h
  ·split at h
   ·refine bi h (fun h=>?_) (fun h=>by cases h)
    split at h
    ·cases h
    ·exact bi h (fun h=>key h rfl) (fun h=>key h rfl)
   ·cases h
 ·cases h
theorem bE8 {P : Program} {call : d8} {tm : T Value} {hp : Hp} {o : Op} {v : Value} (hk : d6 o = 1) (h : xrd P tm hp o = some v) : xop P call tm hp o = some (v, hp) := by
 unfold xrd at h;split at h
 ·rename_i v' hp' hx
  cases hb:Nat.beq hp'.nx hp.nx with
  |false=>rw[hb]at h;cases h
  | true =>
   rw [hb,bJ6,bH9] at h;subst h;have same : hp' = hp := by
    cases o with
    |load t a=>
     simp only[c6,k9]at hx;split at hx
     ·exact(i8 hx).2
     ·cases hx
    |slice t x lo hi mx=>
     simp only[c6,k9]at hx;split at hx
     ·split at hx
      ·split at hx
       ·split at hx
        ·exact aw1 hx
        ·cases hx
       ·cases hx
      ·cases hx
     ·cases hx
    |lookup t x k ok=>
     simp only[c6,k9]at hx;split at hx
     ·split at hx
      ·exact(i8 hx).2
      ·cases hx
     ·cases hx
    | call c =>
     obtain⟨callee,args,ats⟩:=c;cases callee with
     | builtin b =>
      cases b <;> first
       | (simp[d6]at hk;done)
       | (simp only [c6, k9] at hx
          split at hx
          ·generalize ats.toList=tl at hx
           rename_i vs _
           rcases tl with _| ⟨t,_| ⟨u,r⟩⟩<;>rcases vs with _| ⟨x,_| ⟨y,r2⟩⟩<;>simp only[z9,reduceCtorEq]at hx
           exact(i8 hx).2
          ·cases hx)
     |_=>simp[d6]at hk
    |_=>simp[d6]at hk
   rw[same]at hx;cases o with
   |load t a=>exact hx
   |slice t x lo hi mx=>exact hx
   |lookup t x k ok=>exact hx
   |call c=>
    obtain⟨callee,args,ats⟩:=c;cases callee with
    |builtin b=>exact hx
    |_=>simp[d6]at hk
   |_=>simp[d6]at hk
 ·cases h
section
variable {P :Program}{B:BS}{w0:World}{σ:Sg}{hp:Hp}{w:World}
def rest (B:BS)(σ:Sg)(hp:Hp)(w:World):BS:=⟨fun k=>B.D k\/(k<w.heap.size/\ ∀i b p,hp.m.get i=some b->σ i=some p->p.blk≠k),B.D,fun _ h=>.inl h⟩
theorem bx2 (h:HR B w0 σ hp w){k:Nat}(hk:rest B σ hp w k):k<w.heap.size:=by
 rcases hk with hk|hk
 ·have:=h.old k (B.sub k hk);have:=h.size;omega
 ·exact hk.1
theorem bx1 (_:HR B w0 σ hp w){i:Nat}{b:Blk}{p:Pl}(hg:hp.m.get i=some b)(hp1:σ i=some p)(hn:¬B p.blk):¬rest B σ hp w p.blk:=fun hb=>by
 rcases hb with hb|hb
 ·exact hn (B.sub _ hb)
 ·exact hb.2 i b p hg hp1 rfl
theorem aV2 (h:HR B w0 σ hp w){k:Nat}(hk:B k):rest B σ hp w k:=by
 by_cases hd:B.D k
 ·exact .inl hd
 ·refine .inr ⟨by have:=h.old k hk;have:=h.size;omega,fun i b p hg hp1 he=>?_⟩
  obtain⟨p',o,h1,h3,_⟩:=h.live i b hg;have:p'=p:=bK5 (h1.symm.trans hp1);subst this;cases hr:S7 b with
  |true=>exact hd (he▸h3.yes hr)
  |false=>exact h3.no hr (he▸hk)
theorem HR.max (h:HR B w0 σ hp w):HR (rest B σ hp w) w σ hp w:=by
 refine⟨rfl,rfl,rfl,bK2 _,fun k hk=>bx2 h hk,fun k _=>rfl,h.fresh,?_,h.inj⟩
 intro i b hg;obtain⟨p,o,h1,h2,h3,h4⟩:=h.live i b hg;exact⟨p,o,h1,h2.to id (bx1 h hg h1),h3,h4⟩
theorem HR.back (h:HR B w0 σ hp w){σ':Sg}{hp':Hp}{w':World}(k:HR (rest B σ hp w) w σ' hp' w'):HR B w0 σ' hp' w':=by
 refine⟨k.os.trans h.os,k.tape.trans h.tape,k.output.trans h.output,bN7 h.size k.size,h.old,fun b hb=>(k.kept b (aV2 h hb)).trans (h.kept b hb),k.fresh,?_,k.inj⟩
 intro i b hg;obtain⟨p,o,h1,h3,h4⟩:=k.live i b hg;exact⟨p,o,h1,h3.to id (fun hn hb=>hn (aV2 h hb)),h4⟩
def Ext (B:BS)(σ:Sg)(hp:Hp)(w:World)(id:Nat)(n:Nw)(b:Nat):Prop:=
 ∃p o,σ id=some p/\p.blk=b/\w.heap[b]? =some o/\BR σ p n.blk o/\ ¬B b/\ ∀i b2 q,hp.m.get i=some b2->σ i=some q->q.blk≠b
def Hp.take (hp:Hp)(id:Nat)(n:Nw):Hp:= {hp with m:=hp.m.set id (some n.blk)}
theorem HR.take (h:HR B w0 σ hp w){id b:Nat}{n:Nw}(hx:Ext B σ hp w id n b):HR B w0 σ (hp.take id n) w:=by
 obtain⟨p,o,h1,rfl,h4,h6,h7,h8⟩:=hx;refine⟨h.os,h.tape,h.output,h.size,h.old,h.kept,h.fresh,?_,?_⟩
 ·intro i b2 hg
  simp only[Hp.take,T.get_set]at hg
  by_cases hi:i=id
  ·rw[bK1 hi]at hg
   simp only[bH9]at hg;subst hg;subst hi;exact⟨p,o,h1,.of h7 n.ok,h4,h6⟩
  ·rw[bJ9 hi]at hg
   exact h.live i b2 hg
 ·intro i j b1 b2 q r hi hj hne hq hr
  simp only[Hp.take,T.get_set]at hi hj
  by_cases ei:i=id
  ·have ej:j≠id:=by omega
   rw[bJ9 ej]at hj;subst ei;have:q=p:=bK5 (hq.symm.trans h1);subst this;exact Ne.symm (h8 j _ r hj hr)
  ·rw[bJ9 ei]at hi
   by_cases ej:j=id
   ·subst ej
    have:r=p:=bK5 (hr.symm.trans h1);subst this;exact h8 i _ q hi hq
   ·rw[bJ9 ej]at hj
    exact h.inj i j _ _ q r hi hj hne hq hr
theorem HR.lay (h : HR B w0 σ hp w) {id : Nat} (hid : σ id = none) (hlt : id < hp.nx) (n : Nw) {o : Obj} {p : Pl} (hpb : p.blk = w.heap.size) (hv : BR σ p n.blk o) :
  HR B w0 (σ.ext id p) hp (w.alloc o)/\Ext B (σ.ext id p) hp (w.alloc o) id n w.heap.size:=by
 have hle:=Sg.le_ext (σ:=σ) p hid;have ha:=h.allocO id hp.nx hid (bK2 _) hlt n.blk o p hpb (hv.mono hle) n.ok;have hne:∀i b,hp.m.get i=some b->i≠id:=by
  intro i b hg e;subst e;obtain⟨p,o,h1,_⟩:=h.live _ b hg;rw[hid]at h1;cases h1
 have hl:=ha.less (m:=hp.m) (fun i b hg=>by
  show(hp.m.set id _).get i=_;rw[T.get_set,bJ9 (hne i b hg)];exact hg)
 refine⟨by simpa using hl,p,o,Sg.ext_same _ _ _,hpb,?_,hv.mono hle,?_,?_⟩
 ·show(w.heap.push _)[w.heap.size]? =_;simp
 ·intro hb
  have h1:=h.old _ hb;have h2:=h.size;omega
 ·intro i b q hg hq
  rw[Sg.ext_other _ _ _ (hne i b hg)]at hq;obtain⟨p',o',h1,_,h4,_⟩:=h.live i b hg;have:p'=q:=bK5 (h1.symm.trans hq);subst this;have:=(bJ4.1 h4).1;omega
end
end Go.Xe
end PartXm12
