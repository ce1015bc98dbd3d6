/- The executor, parts 8, 9, M, C, 10, 11, 12.
  Conditions: none. -/
import Derived.Test.YtcjhhnoaoldcmaaXm1
import Derived.Lib.AppendZerosOnto
import Derived.Lib.Overlaps
import Derived.RangeFuncRecord
import Derived.LoopNIn
import Derived.Scope
import Derived.RangeFuncNested
set_option linter.unusedSimpArgs false
set_option linter.unusedVariables false
noncomputable section PartXm8
namespace Go.Xe
open Go.RowKit
section
variable {P :Program}{B:BS}{w0:World}{σ:Sg}{hp:Hp}{w:World}
def u9 (hp : Hp) (size : Nat) (x : Value) : Option (Nat × List Value) :=
 match x with
 | .slice none n _=>bif Nat.beq n 0 then some (0,[])else none
 | .slice (some ⟨i, o, none⟩) n _ => match hp.m.get i with
  | some b => match rdC b with
   | some (c, k, _) => bif Nat.ble (o + n * size) k then
     match l9 c o (n*size)with
     |some vs=>some (n,vs)
     |none=>none
    else none
   |none=>none
  |none=>none
 | .slice (some ⟨0,0,some 0⟩) 0 _=>some (0,[])
 |_=>none
theorem an4 {size n : Nat} {x x' : Value} {vs : List Value} (h : u9 hp size x = some (n, vs)) (hx : VR σ x x') (hw : HR B w0 σ hp w) :
  ∃us,VRL σ vs us/\us.length=n*size/\(∃b c,x'= .slice b n c/\(b=none->n=0/\us=[])/\ ∀a,b=some a-> ∀j u,us[j]? =some u->w.cell? (a.add j)=some u):=by
 unfold u9 at h;split at h
 ·rename_i k c
  cases hb:Nat.beq k 0 with
  |false=>rw[hb]at h;cases h
  |true=>
   rw[hb,bH1]at h;simp only[bF4,bF6]at h;obtain⟨rfl,rfl⟩:=h;have hk:=bF9 hb;subst hk;cases hx;exact⟨[],VRL.nil σ,by simp,none,c,rfl,(fun _=>⟨rfl,rfl⟩),(fun a ha=>by cases ha)⟩
 ·rename_i i o k cap
  split at h
  ·rename_i b hg
   split at h
   ·rename_i c m z hr
    cases hb:Nat.ble (o+k*size) m with
    |false=>rw[hb]at h;cases h
    |true=>
     rw[hb,bH1]at h;split at h
     ·rename_i vs' hl
      simp only[bF4,bF6]at h;obtain⟨rfl,rfl⟩:=h;cases hx with
      |slice _ _ p _ _ c' hp' hc hl'=>
      obtain⟨us,h1,h2,h3⟩:=hw.cellsR hg hr (bF8 hb) hl hp';exact⟨us,h1,h2,_,c',rfl,(fun h=>by cases h),(fun a ha=>by cases ha;exact h3)⟩
     ·cases h
   ·cases h
  ·cases h
 ·simp only[bF4,bF6]at h
  obtain⟨rfl,rfl⟩:=h;cases hx with
  |vague q c'=>exact⟨[],VRL.nil σ,by simp,_,c',rfl,(fun h=>by cases h),(fun a _ j u hu=>by simp at hu)⟩
 ·cases h
theorem ad4 {size n : Nat} {b : Option Addr} {c : Nat} {us : List Value} (hlen : us.length = n * size) (hn : b = none → n = 0 ∧ us = [])
  (hs:∀a,b=some a-> ∀j u,us[j]? =some u->w.cell? (a.add j)=some u):
  (Builtin.firstCells size n (.slice b n c)).run P w= .ok us.toArray w:=by
 cases b with
 |none=>obtain⟨rfl,rfl⟩:=hn rfl;exact run_firstCells_none w size 0 0 c
 |some a=>exact run_firstCells_some w size n a n c us hlen (hs a rfl)
theorem I6 (t u ty e e2 : TypeId) (i : TypeInfo) (ht : P.underlying t = some (.slice e)) (hu : P.underlying u = some (.slice e2)) (hi : P.info? e = some i)
  (a:Addr) (sLen sCap n c:Nat) (b:Option Addr) (us:List Value) (hf:(Builtin.firstCells i.size n (.slice b n c)).run P w= .ok us.toArray w)
  (hroom:sLen+n<=sCap) {w':World} (hst:(storeCells (a.add (sLen*i.size)) us).run P w= .ok () w'):
  (Builtin.append_ #[t,u] ty #[.slice (some a) sLen sCap,.slice b n c]).run P w= .ok (.slice (some a) (sLen+n) sCap) w':=by
 simp[Builtin.append_,bH8 ht,bH8 hu,sizeOf,typeInfo,hi,Builtin.lenOf,hroom,hf,hst]
theorem N8 (t u ty e e2 : TypeId) (i : TypeInfo) (z : Value) (ht : P.underlying t = some (.slice e)) (hu : P.underlying u = some (.slice e2)) (hi : P.info? e = some i) (hz : i.zero = some z)
  (base:Option Addr) (sLen sCap n c:Nat) (b:Option Addr) (olds us:List Value)
  (hfo:∀w',w'.heap=w.heap->(Builtin.firstCells i.size sLen (.slice base sLen sCap)).run P w'= .ok olds.toArray w')
  (hf:∀w',w'.heap=w.heap->(Builtin.firstCells i.size n (.slice b n c)).run P w'= .ok us.toArray w')
  (hg:sCap<sLen+n) (h63:((sLen+n:Nat):Int)<=9223372036854775807) (hfit:Builtin.nextslicecap (sLen+n) sCap*i.bytes<=281474976710656):
  (Builtin.append_ #[t,u] ty #[.slice base sLen sCap,.slice b n c]).run P w=
   .ok (.slice (some ⟨w.heap.size,0,none⟩) (sLen+n) (grownCap w (sLen+n) sCap e))
    (w.drew.alloc (.cells (olds.toArray++us.toArray++Builtin.zeroCells z.cells (grownCap w (sLen+n) sCap e-(sLen+n))) e)):=by
 have hn:¬(sLen+n<=sCap):=by omega
 have h63':¬(9223372036854775807<((sLen:Int)+(n:Int))):=by omega
 have h48':¬(281474976710656<Builtin.nextslicecap (sLen+n) sCap*i.bytes):=by omega
 have e1:=hf w.drew rfl;have e2':=hfo w.drew rfl;simp[Builtin.append_,bH8 ht,bH8 hu,sizeOf,typeInfo,zeroValue,hi,hz,Builtin.lenOf,hn,h63',h48',Question.forced,e1,e2',newRow,grownCap]
 congr 2
 apply bN5
 simp[bG8]
theorem HR.kill (h:HR B w0 σ hp w)(i:Nat):HR B w0 σ {hp with m:=hp.m.set i none} w:=by
 refine h.sub (bH7 _) fun j b hj=>?_
 have hj:(hp.m.set i none).get j=some b:=hj;rw[T.get_set]at hj
 by_cases hji:j=i
 ·rw[bH6 hji]at hj;cases hj
 ·rw[bH4 hji]at hj;exact hj
theorem HR.grown (hw : HR B w0 σ hp w) {vs us : List Value} (hv : VRL σ vs us) (more : Array Value) (c : T Value) (hc : ∀ j, j < vs.length → c.get j = vs[j]?) (e z : Nat) :
  HR B w0 (σ.ext hp.nx ⟨w.heap.size,0,us.length+more.size,z⟩) ⟨hp.m.set hp.nx (some (.cells c vs.length e z)),hp.nx+1⟩ (w.drew.alloc (.cells (us.toArray++more) e)):=by
 have:=hw.drew.alloc c vs.length e z (us.toArray++more) (by rw[hv.1];simp) (fun j hj=>by
  have hj':j<us.length:=by rw[<-hv.1];exact hj
  refine⟨vs[j],us[j],by rw[hc j hj];simp[hj],?_,hv.2 j _ _ (by simp[hj]) (by simp[hj'])⟩
  simp[Array.getElem?_append,hj'])
 simpa using this
theorem HR.of_same (h:HR B w0 σ hp w){hp2:Hp}(hn:hp2.nx=hp.nx)(hm:∀i,hp2.m.get i=hp.m.get i):HR B w0 σ hp2 w:=
 h.sub (Nat.le_of_eq hn.symm) fun i b hg=>by rw[<-hm];exact hg
def A8 (P : Program) (hp : Hp) (t u : TypeId) (s x : Value) : Option (Value × Hp) :=
 match P.underlying t,P.underlying u with
 | some (.slice e), some (.slice _) => match P.info? e with
  |none=>none
  | some ie => match ie.zero with
   |none=>none
   | some z => bif Nat.beq z.cells.toList.length ie.size && Nat.ble ie.bytes 1048576 then
     match u9 hp ie.size x with
     |none=>none
     | some (n, news) => match s with
      | .slice none sLen sCap => bif Nat.beq sLen 0 && Nat.beq sCap 0 && Nat.ble n 67108864 then
        bif Nat.beq n 0 then some (.slice none 0 0,hp)
        else some (.slice (some ⟨hp.nx,0,none⟩) n (d8 n 0),hp.new news e ie.size)
       else none
      | .slice (some ⟨i,o,none⟩) sLen sCap=>match hp.m.get i with
       |some (.cells c k e' z')=>
        bif Nat.ble (sLen+n) 67108864&&news.all Value.oneCell' then
         bif Nat.beq n 0 then
          bif Nat.ble sLen sCap then some (.slice (some ⟨i,o,none⟩) sLen sCap,hp)else none
         else
          bif Nat.ble unk sCap then
           bif Nat.ble 1 (B5 sCap)&&Nat.ble (B5 sCap) (sLen+n)then
            bif Nat.ble (o+sLen*ie.size) k then
             match l9 c o (sLen*ie.size)with
             |none=>none
             |some olds=>some (.slice (some ⟨hp.nx,0,none⟩) (sLen+n) (d8 (sLen+n) 0),hp.new (olds++news) e ie.size)
            else none
           else bif Nat.beq z' ie.size&&Nat.beq e' e&&Nat.ble (o+sLen*ie.size) k then
            bif Nat.ble (sLen+n) (I4 sCap)then
             some (.slice (some ⟨i,o,none⟩) (sLen+n) sCap,aq3 hp i c (Nat.max k (o+(sLen+n)*ie.size)) e' z' (o+sLen*ie.size) news)
            else
            match l9 c o (sLen*ie.size)with
            |none=>none
            |some olds=>
             (bif Nat.beq o 0 then fill c (sLen*ie.size) news else fill (fill .e 0 olds) (sLen*ie.size) news).force fun ct=>
              some (.slice (some ⟨hp.nx,0,none⟩) (sLen+n) (d8 (sLen+n) 0),⟨(hp.m.set i none).set hp.nx (some (.cells ct ((sLen+n)*ie.size) e' z')),hp.nx+1⟩)
           else none
          else bif Nat.ble (sLen+n) sCap then
           bif Nat.ble (o+(sLen+n)*ie.size) k then
            some (.slice (some ⟨i,o,none⟩) (sLen+n) sCap,aq3 hp i c k e' z' (o+sLen*ie.size) news)
           else none
          else
           bif Nat.ble (o+sLen*ie.size) k then
            match l9 c o (sLen*ie.size)with
            |none=>none
            |some olds=>some (.slice (some ⟨hp.nx,0,none⟩) (sLen+n) (d8 (sLen+n) 0),hp.new (olds++news) e ie.size)
           else none
        else none
       |some (.ro c k _ _)=>
        bif Nat.ble (sLen+n) 67108864&&Nat.ble sLen sCap&& !Nat.ble unk sCap then
         bif Nat.beq n 0 then some (.slice (some ⟨i,o,none⟩) sLen sCap,hp)
         else bif Nat.ble (sLen+n) sCap then none
         else bif Nat.ble (o+sLen*ie.size) k then
          match l9 c o (sLen*ie.size)with
          |none=>none
          |some olds=>some (.slice (some ⟨hp.nx,0,none⟩) (sLen+n) (d8 (sLen+n) 0),hp.new (olds++news) e ie.size)
         else none
        else none
       |_=>none
      |_=>none
    else none
 |_,_=>none
theorem B2 {c:T Value}:∀ {vs:List Value} {o:Nat},(∀j,j<vs.length->c.get (o+j)=vs[j]?)->l9 c o vs.length=some vs
 | [],o,_=>rfl
 |v::vs,o,h=>by
  simp only[bJ7,l9];have h0:=h 0 (by simp)
  simp only[bM0,bH0]at h0;rw[h0];have:=B2 (c:=c) (vs:=vs) (o:=o+1) (fun j hj=>by have:=h (j+1) (by simp;omega);rw[show o+(j+1)=o+1+j by omega]at this;simpa using this)
  rw[this]
theorem VR.unkSlice (σ:Sg)(i:Nat)(p:Pl)(hd:p.dl=0){l c':Nat}(hl:l<=c')(hb:c'*p.esz<=p.siz):VR (σ.ext i p) (.slice (some ⟨i,0,none⟩) l (d8 l 0)) (.slice (some ⟨p.blk,0,none⟩) l c'):=by
 have:=VR.slice (σ:=σ.ext i p) i 0 p l (d8 l 0) c' (Sg.ext_same _ _ _) (.inr ⟨n9 _ _,by rw[F6 C9];exact hl,.inl (E2 C9),by rw[hd];omega⟩) hl
 simpa [hd]using this
theorem ae5 {w':World}(h:w'.heap=w.heap)(a:Addr):w'.cell? a=w.cell? a:=by
 unfold World.cell?;rw[h]
set_option maxHeartbeats 1000000 in
theorem aF3 {t u : TypeId} {s s' x x' : Value} {v : Value} {hp' : Hp} (h : A8 P hp t u s x = some (v, hp')) (hs : VR σ s s') (hx : VR σ x x') (hw : HR B w0 σ hp w) (ty : TypeId) :
  MOK hp B w0 σ v hp' ((Builtin.append_ #[t,u] ty #[s',x']).run P w):=by
 unfold A8 at h;split at h
 case h_2=>cases h
 rename_i e e2 ht hu;split at h
 ·cases h
 rename_i ie hie;split at h
 ·cases h
 rename_i z hz;cases hb:Nat.beq z.cells.toList.length ie.size&&Nat.ble ie.bytes 1048576 with
 |false=>rw[hb]at h;cases h
 |true=>
 rw[hb,bH1]at h;simp only[bF5]at hb;have ez:z.cells.size=ie.size:=by have:=bF9 hb.1;simpa using this
 have eb:=bF8 hb.2;split at h
 ·cases h
 rename_i n news hfx;obtain⟨us,hv,hlen,b,c,rfl,hbn,hbs⟩:=an4 hfx hx hw;have hnl:news.length=n*ie.size:=by rw[hv.1];exact hlen
 have hf:(Builtin.firstCells ie.size n (.slice b n c)).run P w= .ok us.toArray w:=ad4 hlen hbn hbs;have hfw:∀w':World,w'.heap=w.heap->(Builtin.firstCells ie.size n (.slice b n c)).run P w'= .ok us.toArray w':=fun w' hh=>
  ad4 hlen hbn (fun a ha j u hu=>by rw[ae5 hh];exact hbs a ha j u hu)
 split at h
 ·rename_i sLen sCap
  cases h0:Nat.beq sLen 0&&Nat.beq sCap 0&&Nat.ble n 67108864 with
  |false=>rw[h0]at h;cases h
  |true=>
  rw[h0,bH1]at h;simp only[bF5]at h0;have e1:=bF9 h0.1.1;have e2':=bF9 h0.1.2;have hn:=bF8 h0.2;subst e1;subst e2';cases hs;cases hn0:Nat.beq n 0 with
  |true=>
   rw[hn0,bH1]at h;simp only[bF4,bF6]at h;obtain⟨rfl,rfl⟩:=h;have:=bF9 hn0;subst this;have hus:us=[]:=bG0 (by simpa using hlen)
   subst hus;refine⟨σ,.slice none 0 0,w,?_,Sg.gr_refl _ σ,.nils 0 0,hw⟩;simp[Builtin.append_,bH8 ht,bH8 hu,sizeOf,typeInfo,hie,Builtin.lenOf,hf]
  |false=>
   rw[hn0,bH2]at h;simp only[bF4,bF6]at h;obtain⟨rfl,rfl⟩:=h;have hn0':n≠0:=fun e=>by rw[e]at hn0;cases hn0
   have hr:=N8 (P:=P) (w:=w) t u ty e e2 ie z ht hu hie hz none 0 0 n c b [] us (fun w' _=>run_firstCells_none w' ie.size 0 0 0) hfw (by omega) (by omega)
    (growslice_fits (by omega) (by have:=Nat.mul_le_mul (show 0+n<=67108864 by omega) eb;omega))
   simp only[bI6]at hr;have hge:=grownCap_ge w n 0 e;have hgr:=hw.grown hv (Builtin.zeroCells z.cells (grownCap w n 0 e-n)) (fill .e 0 news) (fun j hj=>A3 news j hj) e ie.size
   refine⟨_,_,_,hr,hw.le_new _,VR.unkSlice σ hp.nx ⟨w.heap.size,0,us.length+(Builtin.zeroCells z.cells (grownCap w n 0 e-n)).size,ie.size⟩ rfl hge ?_,?_⟩
   ·show grownCap w n 0 e*ie.size<=us.length+_
    rw[size_zeroCells,hlen,ez,<-bJ0];exact bG7 _ (by omega)
   ·simpa [Hp.new]using hgr
 ·rename_i i o sLen sCap
  split at h
  case h_3=>cases h
  case h_2=>
   rename_i k0 k e' z' hg;cases h0:Nat.ble (sLen+n) 67108864&&Nat.ble sLen sCap&& !Nat.ble unk sCap with
   |false=>rw[h0]at h;cases h
   |true=>
   rw[h0,bH1]at h;simp only[bF5,bK0]at h0;obtain⟨⟨g1,g2⟩,g3⟩:=h0;have hn:=bF8 g1;have g3:¬unk<=sCap:=fun h=>by rw[bG1 h]at g3;cases g3
   cases hs with
   |slice _ _ p _ _ c' hpi hcc hll=>
   obtain⟨rfl,_⟩:sCap=c'/\sCap<unk:=by
    rcases hcc with h| ⟨h,_⟩
    ·exact h
    ·exact absurd h g3
   cases hn0:Nat.beq n 0 with
   |true=>
    rw[hn0,bH1]at h;have:=bF9 hn0;subst this;have hus:us=[]:=bG0 (by simpa using hlen)
    subst hus;simp only[bF4,bF6]at h;obtain⟨rfl,rfl⟩:=h;refine⟨σ,_,w,I6 t u ty e e2 ie ht hu hie _ sLen sCap 0 c b [] hf (by omega) (by simp[storeCells]),Sg.gr_refl _ σ,.slice i o p sLen sCap sCap hpi hcc hll,hw⟩
   |false=>
   rw[hn0,bH2]at h;have hn0':n≠0:=fun e=>by rw[e]at hn0;cases hn0
   cases hro:Nat.ble (sLen+n) sCap with
   |true=>rw[hro]at h;cases h
   |false=>
   rw[hro,bH2]at h;have hlt:sCap<sLen+n:=Nat.lt_of_not_le fun h=>by rw[bG1 h]at hro;cases hro
   cases hok:Nat.ble (o+sLen*ie.size) k with
   |false=>rw[hok]at h;cases h
   |true=>
   rw[hok,bH1]at h;have hok:=bF8 hok;split at h
   ·cases h
   rename_i olds hlo;simp only[bF4,bF6]at h;obtain⟨rfl,rfl⟩:=h;obtain⟨us0,hv0,hlen0,hc0⟩:=hw.cellsR hg rfl hok hlo hpi;have hfo:∀w':World,w'.heap=w.heap->(Builtin.firstCells ie.size sLen (.slice (some ⟨p.blk,p.dl+o,none⟩) sLen sCap)).run P w'= .ok us0.toArray w':=fun w' hh=>
    run_firstCells_some w' ie.size sLen _ sLen sCap us0 hlen0 (fun j u hu=>by rw[ae5 hh];exact hc0 j u hu)
   have hr:=N8 (P:=P) (w:=w) t u ty e e2 ie z ht hu hie hz (some ⟨p.blk,p.dl+o,none⟩) sLen sCap n c b us0 us hfo hfw hlt (by omega)
    (growslice_fits hlt (by have:=Nat.mul_le_mul hn eb;omega))
   have hge:=grownCap_ge w (sLen+n) sCap e;have hcat:=hv0.append hv;have hcl:(olds++news).length=(sLen+n)*ie.size:=by rw[hcat.1,bI1,hlen0,hlen,bJ0]
   have hgr:=hw.grown hcat (Builtin.zeroCells z.cells (grownCap w (sLen+n) sCap e-(sLen+n))) (fill .e 0 (olds++news)) (fun j hj=>A3 _ j hj) e ie.size
   have hur:(us0++us).length=(sLen+n)*ie.size:=by rw[<-hcat.1];exact hcl
   rw[show(us0++us).toArray=us0.toArray++us.toArray by simp]at hgr
   refine⟨_,_,_,hr,hw.le_new _,VR.unkSlice σ hp.nx ⟨w.heap.size,0,(us0++us).length+(Builtin.zeroCells z.cells (grownCap w (sLen+n) sCap e-(sLen+n))).size,ie.size⟩ rfl hge ?_,by simpa [Hp.new]using hgr⟩
   show grownCap w (sLen+n) sCap e*ie.size<=(us0++us).length+_;rw[size_zeroCells,hur,ez,<-bJ0];exact bG7 _ (by omega)
  rename_i k0 k e' z' hg;cases h0:Nat.ble (sLen+n) 67108864&&news.all Value.oneCell' with
  |false=>rw[h0]at h;cases h
  |true=>
  rw[h0,bH1]at h;simp only[bF5]at h0;have hn:=bF8 h0.1;have hone:=hv.all_oneCell h0.2;cases hs with
  |slice _ _ p _ _ c' hpi hcc hll=>
  obtain⟨k1,k2⟩:=hw.place hg hpi;cases hn0:Nat.beq n 0 with
  |true=>
   rw[hn0,bH1]at h;have:=bF9 hn0;subst this;have hus:us=[]:=bG0 (by simpa using hlen)
   subst hus;cases hle:Nat.ble sLen sCap with
   |false=>rw[hle]at h;cases h
   |true=>
    rw[hle,bH1]at h;simp only[bF4,bF6]at h;obtain⟨rfl,rfl⟩:=h;refine⟨σ,_,w,I6 t u ty e e2 ie ht hu hie _ sLen c' 0 c b [] hf (by omega) (by simp[storeCells]),Sg.gr_refl _ σ,.slice i o p sLen sCap c' hpi hcc hll,hw⟩
  |false=>
  rw[hn0,bH2]at h;have hn0':n≠0:=fun e=>by rw[e]at hn0;cases hn0
  have grow : ∀ olds : List Value, l9 k0 o (sLen * ie.size) = some olds → o + sLen * ie.size ≤ k → c' < sLen + n → ∀ (hpx : Hp), HR B w0 σ hpx w → ∀ ct : T Value, (∀ j, j < (olds ++ news).length → ct.get j = (olds ++ news)[j]?) →
    ∀ex zx,ex=e->zx=ie.size->hpx.nx=hp.nx->
    MOK hp B w0 σ (.slice (some ⟨hp.nx,0,none⟩) (sLen+n) (d8 (sLen+n) 0)) ⟨hpx.m.set hp.nx (some (.cells ct ((sLen+n)*ie.size) ex zx)),hp.nx+1⟩
     ((Builtin.append_ #[t,u] ty #[.slice (some ⟨p.blk,p.dl+o,none⟩) sLen c',.slice b n c]).run P w):=by
   rintro olds hlo hok hlt hpx hwx ct hct ex zx rfl rfl hnx
   obtain⟨us0,hv0,hlen0,hc0⟩:=hw.cells hg hok hlo hpi;have hfo:∀w':World,w'.heap=w.heap->(Builtin.firstCells ie.size sLen (.slice (some ⟨p.blk,p.dl+o,none⟩) sLen c')).run P w'= .ok us0.toArray w':=fun w' hh=>
    run_firstCells_some w' ie.size sLen _ sLen c' us0 hlen0 (fun j u hu=>by rw[ae5 hh];exact hc0 j u hu)
   have hr:=N8 (P:=P) (w:=w) t u ty ex e2 ie z ht hu hie hz (some ⟨p.blk,p.dl+o,none⟩) sLen c' n c b us0 us hfo hfw hlt (by omega)
    (growslice_fits hlt (by have:=Nat.mul_le_mul hn eb;omega))
   have hge:=grownCap_ge w (sLen+n) c' ex;have hcat:=hv0.append hv;have hcl:(olds++news).length=(sLen+n)*ie.size:=by rw[hcat.1,bI1,hlen0,hlen,bJ0]
   have hgr:=hwx.grown hcat (Builtin.zeroCells z.cells (grownCap w (sLen+n) c' ex-(sLen+n))) ct hct ex ie.size;rw[hcl,hnx]at hgr;have hur:(us0++us).length=(sLen+n)*ie.size:=by rw[<-hcat.1];exact hcl
   rw[show(us0++us).toArray=us0.toArray++us.toArray by simp]at hgr
   refine⟨_,_,_,hr,hw.le_new _,VR.unkSlice σ hp.nx ⟨w.heap.size,0,(us0++us).length+(Builtin.zeroCells z.cells (grownCap w (sLen+n) c' ex-(sLen+n))).size,ie.size⟩ rfl hge ?_,hgr⟩;show grownCap w (sLen+n) c' ex*ie.size<=(us0++us).length+_;rw[size_zeroCells,hur,ez,<-bJ0];exact bG7 _ (by omega)
  have grow2 : ∀ {v : Value} {hp' : Hp}, c' < sLen + n → (bif Nat.ble (o + sLen * ie.size) k then
    match l9 k0 o (sLen*ie.size)with
    |none=>none
    |some olds=>some (Value.slice (some ⟨hp.nx,0,none⟩) (sLen+n) (d8 (sLen+n) 0),hp.new (olds++news) e ie.size)
   else none)=some (v,hp')->MOK hp B w0 σ v hp' ((Builtin.append_ #[t,u] ty #[.slice (some ⟨p.blk,p.dl+o,none⟩) sLen c',.slice b n c]).run P w):=by
   intro v hp' hlt h;cases hok:Nat.ble (o+sLen*ie.size) k with
   |false=>rw[hok]at h;cases h
   |true=>
    rw[hok,bH1]at h;have hok:=bF8 hok;split at h
    ·cases h
    rename_i olds hlo;simp only[bF4,bF6]at h;obtain⟨rfl,rfl⟩:=h;have hol:=(j7 hlo).1;have:=grow olds hlo hok hlt hp hw (fill .e 0 (olds++news)) (fun j hj=>A3 _ j hj) e ie.size rfl rfl rfl
    rw[show(sLen+n)*ie.size=(olds++news).length by rw[bI1,hol,hnl,bJ0]]at this
    exact this
  cases hcu:Nat.ble unk sCap with
  | true =>
   rw[hcu,bH1]at h;have hcu:=bF8 hcu;obtain⟨hclo,hchi,hbnd⟩:I4 sCap<=c'/\(B5 sCap=0\/c'<B5 sCap)/\p.dl+o+c'*p.esz<=p.siz:=by
    rcases hcc with⟨_,h⟩| ⟨_,h2,h3,h4⟩
    ·omega
    ·exact⟨h2,h3,h4⟩
   cases hsure:Nat.ble 1 (B5 sCap)&&Nat.ble (B5 sCap) (sLen+n)with
   |true=>
    rw[hsure,bH1]at h;simp only[bF5]at hsure;have g1:=bF8 hsure.1;have g2:=bF8 hsure.2;exact grow2 (by omega) h
   |false=>
   rw[hsure,bH2]at h;cases h1:Nat.beq z' ie.size&&Nat.beq e' e&&Nat.ble (o+sLen*ie.size) k with
   |false=>rw[h1]at h;cases h
   |true=>
   rw[h1,bH1]at h;simp only[bF5]at h1;have hz':=bF9 h1.1.1;have he:=bF9 h1.1.2;have hok:=bF8 h1.2;cases hsl:Nat.ble (sLen+n) (I4 sCap)with
   |true=>
    rw[hsl,bH1,P0]at h;have hsl:=bF8 hsl;have hroom:sLen+n<=c':=by omega
    simp only[bF4,bF6]at h;obtain⟨rfl,rfl⟩:=h;have hfit:p.dl+(o+sLen*ie.size+n*ie.size)<=p.siz:=by
     have:(sLen+n)*ie.size<=c'*p.esz:=by rw[k2,hz'];exact bG7 _ hroom
     rw[bJ0]at this;omega
    obtain⟨w',hst,hh,_⟩:=hw.store (o:=o+sLen*ie.size) hg hpi hv hone hok (by rw[hnl];omega) P
    have hadd:(⟨p.blk,p.dl+o,none⟩:Addr).add (sLen*ie.size)=⟨p.blk,p.dl+(o+sLen*ie.size),none⟩:=by rw[bO7,bL4]
    have hrun:=I6 (P:=P) t u ty e e2 ie ht hu hie ⟨p.blk,p.dl+o,none⟩ sLen c' n c b us hf hroom (w':=w') (by rw[hadd];exact hst)
    refine⟨σ,_,w',hrun,Sg.gr_refl _ σ,.slice i o p _ _ _ hpi (.inr ⟨hcu,hclo,hchi,hbnd⟩) hroom,?_⟩;rw[hnl,show max k (o+sLen*ie.size+n*ie.size)=Nat.max k (o+(sLen+n)*ie.size) by rw[bJ0,bL4]]at hh
    exact hh
   |false=>
   rw[hsl,bH2]at h;split at h
   ·cases h
   rename_i olds hlo;rw[T.force_eq]at h;generalize htr:(bif Nat.beq o 0 then fill k0 (sLen*ie.size) news else fill (fill .e 0 olds) (sLen*ie.size) news)=ct at h
   simp only[bF4,bF6]at h;obtain⟨rfl,rfl⟩:=h;obtain⟨hol,hog⟩:=j7 hlo;have hct:∀j,j<(olds++news).length->ct.get j=(olds++news)[j]? :=by
    intro j hj;rw[<-htr];have hjl:j<sLen*ie.size+news.length:=by simpa [hol]using hj
    by_cases hjs:j<sLen*ie.size
    ·rw[bG3 (by omega),hog j hjs]
     cases ho:Nat.beq o 0 with
     |true=>
      have:=bF9 ho;subst this;rw[bH1,i8,bH4 (by omega)];simp
     |false=>
      rw[bH2,i8,bH4 (by omega),A3 olds j (by omega),hog j hjs]
    ·rw[bG2 (by omega),hol]
     cases ho:Nat.beq o 0 with
     |true=>rw[bH1,i8,bH6 (by omega)]
     |false=>rw[bH2,i8,bH6 (by omega)]
   by_cases hroom:sLen+n<=c'
   ·
    have hfit:p.dl+o+(sLen*ie.size+n*ie.size)<=p.siz:=by
     have:(sLen+n)*ie.size<=c'*p.esz:=by rw[k2,hz'];exact bG7 _ hroom
     rw[bJ0]at this;omega
    have hm:=hw.move hg hpi (o:=o) (k:=sLen*ie.size) hok (bif Nat.beq o 0 then k0 else fill .e 0 olds) (fun j hj=>by
     cases ho:Nat.beq o 0 with
     |true=>have:=bF9 ho;subst this;simp
     |false=>rw[bH2,A3 olds j (by omega),hog j hj])
    have hle:=hw.le_new ⟨p.blk,p.dl+o,p.siz,p.esz⟩;obtain⟨w',hst,hh,_⟩:=hm.store (i:=hp.nx) (o:=sLen*ie.size) (by rw[T.get_set,bH6 rfl]) (Sg.ext_same _ _ _) (hv.mono hle.le) hone (bH7 _) (by show p.dl+o+_+_<=p.siz;rw[hnl];omega) P
    have hadd:(⟨p.blk,p.dl+o,none⟩:Addr).add (sLen*ie.size)=⟨p.blk,p.dl+o+sLen*ie.size,none⟩:=bO7 _ _ _;have hrun:=I6 (P:=P) t u ty e e2 ie ht hu hie ⟨p.blk,p.dl+o,none⟩ sLen c' n c b us hf hroom (w':=w') (by rw[hadd];exact hst)
    refine⟨_,_,w',hrun,hle,?_,?_⟩
    ·have:=VR.slice (σ:=σ.ext hp.nx ⟨p.blk,p.dl+o,p.siz,p.esz⟩) hp.nx 0 ⟨p.blk,p.dl+o,p.siz,p.esz⟩ (sLen+n) (d8 (sLen+n) 0) c' (Sg.ext_same _ _ _) (.inr ⟨n9 _ _,by rw[F6 C9];exact hroom,.inl (E2 C9),by simpa using hbnd⟩) hroom
     simpa using this
    ·have hft : fill (bif Nat.beq o 0 then k0 else fill .e 0 olds) (sLen * ie.size) news = ct := by
      rw[<-htr];cases Nat.beq o 0<;>rfl
     rw[hft,hnl,show max (sLen*ie.size) (sLen*ie.size+n*ie.size)=(sLen+n)*ie.size by rw[bJ0];omega]at hh
     refine hh.of_same rfl (fun j=>?_)
     simp only[T.get_set];split<;>rfl
   ·subst hz'
    subst he;exact grow olds hlo hok (by omega) {hp with m:=hp.m.set i none} (hw.kill i) _ hct _ _ rfl rfl rfl
  |false=>
   rw[hcu,bH2]at h;have hcu':¬unk<=sCap:=fun h=>by rw[bG1 h]at hcu;cases hcu
   obtain⟨rfl,hltu⟩:sCap=c'/\sCap<unk:=by
    rcases hcc with h| ⟨h,_⟩
    ·exact h
    ·exact absurd h hcu'
   cases hroom:Nat.ble (sLen+n) sCap with
   |true=>
    rw[hroom,bH1]at h;have hroom:=bF8 hroom;cases hin:Nat.ble (o+(sLen+n)*ie.size) k with
    |false=>rw[hin]at h;cases h
    |true=>
     rw[hin,bH1,P0]at h;have hin:=bF8 hin;simp only[bF4,bF6]at h;obtain⟨rfl,rfl⟩:=h;rw[bJ0]at hin;obtain⟨w',hst,hh,_⟩:=hw.store (o:=o+sLen*ie.size) hg hpi hv hone (by omega) (by rw[hnl];omega) P
     have hadd:(⟨p.blk,p.dl+o,none⟩:Addr).add (sLen*ie.size)=⟨p.blk,p.dl+(o+sLen*ie.size),none⟩:=by rw[bO7,bL4]
     have hrun:=I6 (P:=P) t u ty e e2 ie ht hu hie ⟨p.blk,p.dl+o,none⟩ sLen sCap n c b us hf hroom (w':=w') (by rw[hadd];exact hst)
     refine⟨σ,_,w',hrun,Sg.gr_refl _ σ,.slice i o p _ _ _ hpi (.inl ⟨rfl,hltu⟩) hroom,?_⟩
     ·rw[hnl,show max k (o+sLen*ie.size+n*ie.size)=k by omega]at hh
      exact hh
   |false=>
    rw[hroom,bH2]at h;have hroom':¬sLen+n<=sCap:=fun h=>by rw[bG1 h]at hroom;cases hroom
    exact grow2 (by omega) h
 ·cases h
end
end Go.Xe
end PartXm8
noncomputable section PartXm9
namespace Go.Xe
open Go.RowKit
section
variable {P :Program}{B:BS}{w0:World}{σ:Sg}{hp:Hp}{w:World}
def aJ2 (P : Program) (hp : Hp) (t : TypeId) (d x : Value) : Option (Value × Hp) :=
 match P.underlying t with
 | some (.slice e) => match P.info? e with
  |none=>none
  | some ie => match d with
   | .slice none dl _ => bif Nat.beq dl 0 then
     match x with
     | .slice (some ⟨_,_,none⟩) _ _| .slice none _ _=>some (.int .i64 0,hp)
     |_=>none
    else none
   | .slice (some ⟨0, 0, some 0⟩) 0 _ => match x with
     | .slice (some ⟨_,_,none⟩) _ _=>some (.int .i64 0,hp)
     |_=>none
   | .slice (some ⟨i, o, none⟩) dl dc => match hp.m.get i with
    | some (.cells c k e' z') => match x with
     | .slice none n _=>bif Nat.beq n 0 then some (.int .i64 0,hp)else none
     | .slice (some ⟨j, q, none⟩) n cx => match u9 hp ie.size (.slice (some ⟨j, q, none⟩) (Nat.min n dl) cx) with
      | some (m, vs) => bif (Nat.ble (o + m * ie.size) k || (Nat.ble unk dc && Nat.beq z' ie.size && Nat.ble o k)) && Nat.ble m dl && vs.all Value.oneCell' then
        some (.int .i64 m,aq3 hp i c (Nat.max k (o+m*ie.size)) e' z' o vs)
       else none
      |none=>none
     | .slice (some ⟨0,0,some 0⟩) 0 _=>some (.int .i64 0,hp)
     |_=>none
    |_=>none
   |_=>none
 |_=>none
theorem aW7 {t u : TypeId} {d d' x x' : Value} {v : Value} {hp' : Hp} (h : aJ2 P hp t d x = some (v, hp')) (hd : VR σ d d') (hx : VR σ x x') (hw : HR B w0 σ hp w) (ty : TypeId) :
  MOK hp B w0 σ v hp' ((Builtin.copy_ #[t,u] ty #[d',x']).run P w):=by
 unfold aJ2 at h;split at h
 case h_2=>cases h
 rename_i e ht;split at h
 ·cases h
 rename_i ie hie;split at h
 ·rename_i dl dc
  cases hb:Nat.beq dl 0 with
  |false=>grind
  |true=>
  rw[hb,bH1]at h;have hb:=bF9 hb;subst hb;cases hd;split at h
  ·rename_i j q n cx
   cases h;cases hx with
   |slice _ _ p _ _ c' hp' hc hl=>
   refine⟨σ,_,w,?_,Sg.gr_refl _ σ,.int _ _,hw⟩;simp[Builtin.copy_,bH8 ht,Builtin.lenOf,sizeOf,typeInfo,hie,Builtin.firstCells,loadCells,loadCellsFrom,goInt]
  ·rename_i n cx
   cases h;cases hx;refine⟨σ,_,w,?_,Sg.gr_refl _ σ,.int _ _,hw⟩;simp[Builtin.copy_,bH8 ht,Builtin.lenOf,sizeOf,typeInfo,hie,Builtin.firstCells,goInt]
  ·cases h
 ·rename_i dc
  split at h
  ·simp only[bF4,bF6]at h
   obtain⟨rfl,rfl⟩:=h;cases hd;cases hx with
   |slice _ _ p _ _ c' hp' hc hl=>
   refine⟨σ,_,w,?_,Sg.gr_refl _ σ,.int _ _,hw⟩;simp[Builtin.copy_,bH8 ht,Builtin.lenOf,sizeOf,typeInfo,hie,Builtin.firstCells,loadCells,loadCellsFrom,storeCells,goInt]
  ·cases h
 ·rename_i i o dl dc
  split at h
  case h_2=>cases h
  rename_i c k e' z' hg;cases hd with
  |slice _ _ p _ _ c' hpi hc hl=>
  obtain⟨k1,k2⟩:=hw.place hg hpi;split at h
  ·rename_i n cx
   cases hb:Nat.beq n 0 with
   |false=>grind
   |true=>
    rw[hb,bH1]at h;have hb:=bF9 hb;subst hb;cases h;cases hx;refine⟨σ,_,w,?_,Sg.gr_refl _ σ,.int _ _,hw⟩;simp[Builtin.copy_,bH8 ht,Builtin.lenOf,sizeOf,typeInfo,hie,Builtin.firstCells,goInt,storeCells]
  ·rename_i j q n cx
   cases hx with
   |slice _ _ p2 _ _ cx' hp2 hc2 hl2=>
   split at h
   ·rename_i m vs hf
    cases hb:(Nat.ble (o+m*ie.size) k|| (Nat.ble unk dc&&Nat.beq z' ie.size&&Nat.ble o k))&&Nat.ble m dl&&vs.all Value.oneCell' with
    |false=>grind
    |true=>
     rw[hb,bH1,P0]at h;simp only[bF5,bN1]at hb;have hmd:=bF8 hb.1.2;have hok2:o<=k/\p.dl+(o+m*ie.size)<=p.siz:=by
      rcases hb.1.1 with hin| ⟨⟨g1,g2⟩,g3⟩
      ·simp_all;omega
      ·have g1:=bF8 g1
       have g2:=bF9 g2;have g3:=bF8 g3;have hbnd:p.dl+o+c'*p.esz<=p.siz:=by grind
       have:m*ie.size<=c'*p.esz:=by rw[k2,g2];exact bG7 _ (by omega)
       omega
     cases h;have hmn:Nat.min n dl<=n:=Nat.min_le_left _ _;obtain⟨us,hv,hlen,b,c2,hbe,hbn,hbs⟩:=an4 hf (.slice j q p2 (Nat.min n dl) cx cx' hp2 hc2 (by omega)) hw
     simp only[Value.slice.injEq]at hbe;obtain⟨rfl,rfl,rfl⟩:=hbe;have hone:=hv.all_oneCell hb.2;have hvl:=hv.1;obtain⟨w',hst,hh,_⟩:=hw.store (o:=o) hg hpi hv hone hok2.1 (by rw[hvl,hlen];omega) P
     refine⟨σ,_,w',?_,Sg.gr_refl _ σ,.int _ _,?_⟩
     ·have hl:=run_loadCells_list (P:=P) w _ us (hbs _ rfl)
      rw[hlen]at hl;simp only[Builtin.copy_,List.getElem?_toArray,bH0,bG5,bI3,bH8 ht,bH9,Builtin.lenOf,bI8,sizeOf,typeInfo,bP7,hie,Builtin.firstCells,hl,hst,goInt]
     ·grind
   ·cases h
  ·simp only[bF4,bF6]at h
   obtain⟨rfl,rfl⟩:=h;cases hx with
   |vague q c'=>
    refine⟨σ,_,w,?_,Sg.gr_refl _ σ,.int _ _,hw⟩;simp[Builtin.copy_,bH8 ht,Builtin.lenOf,sizeOf,typeInfo,hie,Builtin.firstCells,loadCells,loadCellsFrom,storeCells,goInt]
  ·cases h
 ·cases h
def E0 (v:Value)(y:Nat):Option Nat:=
 match v with
 | .int _ n=>bif decide (0<=n)&&decide (n<=y)then some n.toNat else none
 |_=>none
theorem H3 {v v' : Value} {y n : Nat} (h : E0 v y = some n) (hv : VR σ v v') {y' : Nat} (hy : y ≤ y') (code : BoundsCode) :
  n<=y/\ ∀w,(Instr.sliceBound v' y' code).run P w= .ok n w:=by
 unfold E0 at h;split at h
 ·rename_i k m
  cases hv;cases hb:decide (0<=m)&&decide (m<=y)with
  |false=>grind
  |true=>
   rw[hb,bH1]at h;simp only[bF5,bH5]at hb;simp only[bF4]at h;subst h;exact⟨by omega,fun w=>run_sliceBound w k m y' code hb.1 (by omega)⟩
 ·cases h
def v7 (len cb:Nat)(lo hi mx:Option Value):Option (Nat×Nat×Option Nat):=
 match(match mx with|some v=>(E0 v cb).map some|none=>some none)with
 |none=>none
 |some m=>match(match hi with|some v=>E0 v (m.getD cb)|none=>(match mx with|some _=>none|none=>some len))with
  |none=>none
  |some h=>match(match lo with|some v=>E0 v h|none=>some 0)with
   |none=>none
   |some l=>some (l,h,m)
def OVR (σ:Sg):Option Value->Option Value->Prop
 |none,none=>True
 |some v,some u=>VR σ v u
 |_,_=>False
theorem C7 {len cb cap : Nat} {lo hi mx lo' hi' mx' : Option Value} {l h : Nat} {m : Option Nat} (he : v7 len cb lo hi mx = some (l, h, m))
  (h1:OVR σ lo lo') (h2:OVR σ hi hi') (h3:OVR σ mx mx') (hc:cb<=cap) (hlc:len<=cb) (isS:Bool):
  l<=h/\h<=m.getD cb/\m.getD cb<=cb/\ ∀w,(Instr.sliceBounds isS len cap lo' hi' mx').run P w= .ok (l,h,m.getD cap) w:=by
 unfold v7 at he;cases mx with
 |none=>
  cases mx' with
  |some _=>exact h3.elim
  |none=>
  simp only[Option.getD_none]at he;cases hi with
  |none=>
   cases hi' with
   |some _=>exact h2.elim
   |none=>
   simp only at he;cases lo with
   |none=>
    cases lo' with
    |some _=>exact h1.elim
    |none=>
    cases he;exact⟨by omega,hlc,bH7 _,fun w=>by simp[Instr.sliceBounds]⟩
   |some lv=>
    cases lo' with
    |none=>exact h1.elim
    |some lv'=>
    simp only at he;cases hb:E0 lv len with
    |none=>grind
    |some l0=>
     simp only[hb,bF4,bF6]at he;obtain⟨rfl,rfl,rfl⟩:=he;obtain⟨a1,a2⟩:=H3 (P:=P) hb h1 (bH7 _) .sliceB;exact⟨a1,hlc,bH7 _,fun w=>by simp[Instr.sliceBounds,a2]⟩
  |some hv=>
   cases hi' with
   |none=>exact h2.elim
   |some hv'=>
   simp only at he;cases hbh:E0 hv cb with
   |none=>grind
   |some h0=>
    simp only[hbh]at he;obtain⟨b1,b2⟩:=H3 (P:=P) hbh h2 hc (if isS then .sliceAcap else .sliceAlen)
    cases lo with
    |none=>
     cases lo' with
     |some _=>exact h1.elim
     |none=>
     cases he;exact⟨by omega,b1,bH7 _,fun w=>by simp[Instr.sliceBounds,b2]⟩
    |some lv=>
     cases lo' with
     |none=>exact h1.elim
     |some lv'=>
     simp only at he;cases hb:E0 lv h0 with
     |none=>grind
     |some l0=>
      simp only[hb,bF4,bF6]at he;obtain⟨rfl,rfl,rfl⟩:=he;obtain⟨a1,a2⟩:=H3 (P:=P) hb h1 (bH7 _) .sliceB;exact⟨a1,b1,bH7 _,fun w=>by simp[Instr.sliceBounds,b2,a2]⟩
 |some mv=>
  cases mx' with
  |none=>exact h3.elim
  |some mv'=>
  simp only at he;cases hbm:E0 mv cb with
  |none=>grind
  |some m0=>
   simp only[hbm,bJ9,bJ6]at he;obtain⟨c1,c2⟩:=H3 (P:=P) hbm h3 hc (if isS then .slice3Acap else .slice3Alen)
   cases hi with
   |none=>simp at he
   |some hv=>
    cases hi' with
    |none=>exact h2.elim
    |some hv'=>
    simp only at he;cases hbh:E0 hv m0 with
    |none=>grind
    |some h0=>
     simp only[hbh]at he;obtain⟨b1,b2⟩:=H3 (P:=P) hbh h2 (bH7 _) .slice3B;cases lo with
     |none=>
      cases lo' with
      |some _=>exact h1.elim
      |none=>
      cases he;exact⟨by omega,b1,c1,fun w=>by simp[Instr.sliceBounds,b2,c2]⟩
     |some lv=>
      cases lo' with
      |none=>exact h1.elim
      |some lv'=>
      simp only at he;cases hb:E0 lv h0 with
      |none=>grind
      |some l0=>
       simp only[hb,bF4,bF6]at he;obtain⟨rfl,rfl,rfl⟩:=he;obtain⟨a1,a2⟩:=H3 (P:=P) hb h1 (bH7 _) .slice3C;exact⟨a1,b1,c1,fun w=>by simp[Instr.sliceBounds,b2,c2,a2]⟩
def p8 (P : Program) (hp : Hp) (t : TypeId) (x : Value) (lo hi mx : Option Value) : Option (Value × Hp) :=
 match P.underlying t with
 |some .string=>match x with
  | .string s=>match mx with
   |some _=>none
   |none=>match v7 s.data.toList.length s.data.toList.length lo hi none with
    |some (l,h,_)=>some (.string ⟨((s.data.toList.take h).drop l).toArray⟩,hp)
    |none=>none
  |_=>none
 | some (.slice e) => match P.info? e with
  |none=>none
  | some ie => match x with
   | .slice none len cap => bif Nat.beq len 0 && Nat.beq cap 0 then
     match v7 0 0 lo hi mx with
     |some _=>some (.slice none 0 0,hp)
     |none=>none
    else none
   | .slice (some ⟨0,0,some 0⟩) 0 _=>match v7 0 0 lo hi mx with
    |some (_,_,none)=>some (.slice (some ⟨0,0,some 0⟩) 0 unk,hp)
    |_=>none
   | .slice (some ⟨i, o, none⟩) len cap =>
    bif Nat.ble unk cap then
     bif Nat.ble (Nat.max (I4 cap) len) 67108864 then
     match v7 len (Nat.max (I4 cap) len) lo hi mx with
     |none=>none
     | some (l, h, some m) => bif Nat.beq m l then some (.slice (some ⟨i, o, none⟩) (h - l) (m - l), hp)
       else some (.slice (some ⟨i,o+l*ie.size,none⟩) (h-l) (m-l),hp)
     | some (l, h, none) => bif Nat.beq l 0 then some (.slice (some ⟨i, o, none⟩) h (d8 (Nat.max (I4 cap) len) (B5 cap)), hp) else
       bif Nat.beq l (Nat.max (I4 cap) len)then some (.slice (some ⟨0,0,some 0⟩) 0 unk,hp)
       else match hp.m.get i with
        |some (.cells _ _ _ z')=>bif Nat.beq z' ie.size then some (.slice (some ⟨i,o+l*ie.size,none⟩) (h-l) (d8 (Nat.max (I4 cap) len-l) (B5 cap-l)),hp)else none
        |_=>none
     else none
    else bif Nat.ble len cap then
     match v7 len cap lo hi mx with
     |none=>none
     | some (l, h, m) => bif Nat.beq (m.getD cap) l then some (.slice (some ⟨i, o, none⟩) (h - l) (m.getD cap - l), hp)
       else some (.slice (some ⟨i,o+l*ie.size,none⟩) (h-l) (m.getD cap-l),hp)
    else none
   |_=>none
 | some (.array n e) => match P.info? e with
  |none=>none
  | some ie => match x with
   | .pointer (some ⟨i, o, none⟩) => bif Nat.ble n 16777216 then
     match v7 n n lo hi mx with
     |none=>none
     | some (l, h, m) => bif Nat.beq (m.getD n) l then some (.slice (some ⟨i, o, none⟩) (h - l) (m.getD n - l), hp)
       else some (.slice (some ⟨i,o+l*ie.size,none⟩) (h-l) (m.getD n-l),hp)
    else none
   |_=>none
 |_=>none
theorem ak7 (s:ByteArray)(l h:Nat):s.extract l h=⟨((s.data.toList.take h).drop l).toArray⟩:=by
 apply ByteArray.ext
 rw[ByteArray.data_extract]
 grind
theorem aO4 {t : TypeId} {x x' : Value} {lo hi mx lo' hi' mx' : Option Value} {v : Value} {hp' : Hp} (h : p8 P hp t x lo hi mx = some (v, hp'))
  (hx:VR σ x x') (h1:OVR σ lo lo') (h2:OVR σ hi hi') (h3:OVR σ mx mx') (hw:HR B w0 σ hp w):
  MOK hp B w0 σ v hp' ((Instr.sliceAt t x' lo' hi' mx').run P w):=by
 unfold p8 at h;split at h
 ·rename_i hu
  split at h
  ·rename_i s
   cases hx;split at h
   ·cases h
   ·cases mx' with
    |some _=>exact h3.elim
    |none=>
    split at h
    ·rename_i l hh m hb
     cases h;obtain⟨_,_,_,a4⟩:=C7 (P:=P) (cap:=s.size) hb h1 h2 (show OVR σ none none from trivial) (by simp) (bH7 _) false
     rw[show s.data.toList.length=s.size by simp]at a4
     refine⟨σ,_,w,?_,Sg.gr_refl _ σ,.string _,hw⟩;simp only[Instr.sliceAt,bI3,bH8 hu,bH9,Instr.slice,Option.isSome_none,bM6,bO5,bI8,a4,ak7]
    ·cases h
  ·cases h
 ·rename_i e hu
  split at h
  ·cases h
  rename_i ie hie;split at h
  ·rename_i len cap
   cases hb:Nat.beq len 0&&Nat.beq cap 0 with
   |false=>grind
   |true=>
    rw[hb,bH1]at h;simp only[bF5]at hb;have e1:=bF9 hb.1;have e2:=bF9 hb.2;subst e1;subst e2;cases hx;split at h
    ·rename_i lhm hbo
     obtain⟨l,hh,m⟩:=lhm;cases h;obtain⟨a1,a2,a3,a4⟩:=C7 (P:=P) (cap:=0) hbo h1 h2 h3 (bH7 _) (bH7 _) true;have hl0:l=0:=by omega
     have hh0:hh=0:=by omega
     have hm0:m.getD 0=0:=by omega
     subst hl0;subst hh0;rw[hm0]at a4;refine⟨σ,_,w,?_,Sg.gr_refl _ σ,.nils 0 0,hw⟩;simp only[Instr.sliceAt,bI3,bH8 hu,bH9,Instr.slice,a4,sizeOf,typeInfo,bP7,hie,bI8,bO6,bQ4]
    ·cases h
  ·rename_i cap
   split at h
   ·rename_i l hh hbo
    cases h;cases hx with
    |vague q c'=>
     obtain⟨a1,a2,a3,a4⟩:=C7 (P:=P) (cap:=c') hbo h1 h2 h3 (bP0 _) (bH7 _) true;simp only[Option.getD_none]at a2 a3 a4;have hl0:l=0:=by omega
     have hh0:hh=0:=by omega
     subst hl0;subst hh0;refine⟨σ,.slice (some q) 0 c',w,?_,Sg.gr_refl _ σ,.vague q c',hw⟩;have hq:(q.add 0)=q:=by simp[Addr.add]
     simp only[Instr.sliceAt,bI3,bH8 hu,bH9,Instr.slice,a4,sizeOf,typeInfo,bP7,hie,bI8,bQ4,bN6,bO3,bJ9,hq,ite_self]
   ·cases h
  ·rename_i i o len cap
   cases hx with
   |slice _ _ p _ _ c' hpi hcc hll=>
   have runs : ∀ (l hh m : Nat), (∀ w, (Instr.sliceBounds true len c' lo' hi' mx').run P w = .ok (l, hh, m) w) →
     (Instr.sliceAt t (.slice (some ⟨p.blk,p.dl+o,none⟩) len c') lo' hi' mx').run P w= .ok (.slice (some (if m=l then⟨p.blk,p.dl+o,none⟩else⟨p.blk,p.dl+(o+l*ie.size),none⟩)) (hh-l) (m-l)) w:=by
    intro l hh m a4;simp only[Instr.sliceAt,bI3,bH8 hu,bH9,Instr.slice,a4,sizeOf,typeInfo,bP7,hie,bI8]
    by_cases hml:m=l
    ·simp[hml]
    ·simp[hml,bO7,bL4]
   cases hcu:Nat.ble unk cap with
   |true=>
    rw[hcu,bH1]at h;have hcu:=bF8 hcu;obtain⟨hclo,hchi,hbnd⟩:I4 cap<=c'/\(B5 cap=0\/c'<B5 cap)/\p.dl+o+c'*p.esz<=p.siz:=by
     grind
    have hhu:B5 cap<unk:=Nat.mod_lt _ C9;have hL:Nat.max (I4 cap) len<=c':=Nat.max_le.2 ⟨hclo,hll⟩;have hLl:len<=Nat.max (I4 cap) len:=bM4 _ _;generalize hLe:Nat.max (I4 cap) len=L at h hL hLl;cases hl64:Nat.ble L 67108864 with
    |false=>grind
    |true=>
    rw[hl64,bH1]at h;have hl64:=bF8 hl64;split at h
    ·cases h
    ·rename_i l hh m hbo
     obtain⟨a1,a2,a3,a4⟩:=C7 (P:=P) (cap:=c') hbo h1 h2 h3 hL hLl true;simp only[bJ6]at a2 a3 a4;have hr:=runs l hh m a4;have hmu:m-l<unk:=by unfold unk;omega
     cases hml:Nat.beq m l with
     |true=>
      rw[hml,bH1]at h;have hml:=bF9 hml;subst hml;cases h;rw[bH6 rfl]at hr;exact⟨σ,_,w,hr,Sg.gr_refl _ σ,.slice i o p _ _ _ hpi (.inl ⟨rfl,hmu⟩) (by omega),hw⟩
     |false=>
      rw[hml,bH2]at h;have hml':m≠l:=fun e=>by rw[e,j9 rfl]at hml;cases hml
      cases h;rw[bH4 hml']at hr;exact⟨σ,_,w,hr,Sg.gr_refl _ σ,.slice i _ p _ _ _ hpi (.inl ⟨rfl,hmu⟩) (by omega),hw⟩
    ·rename_i l hh hbo
     obtain⟨a1,a2,a3,a4⟩:=C7 (P:=P) (cap:=c') hbo h1 h2 h3 hL hLl true;simp only[Option.getD_none]at a2 a3 a4;have hr:=runs l hh c' a4;cases hl0:Nat.beq l 0 with
     |true=>
      rw[hl0,bH1]at h;have hl0:=bF9 hl0;subst hl0;cases h;simp only[bO3,bM0,ite_self,bN6]at hr;exact⟨σ,_,w,hr,Sg.gr_refl _ σ,.slice i o p _ _ _ hpi (.inr ⟨n9 _ _,by rw[F6 hhu];exact hL,by rw[E2 hhu];exact hchi,hbnd⟩) (by omega),hw⟩
     |false=>
      rw[hl0,bH2]at h;cases hlh:Nat.beq l L with
      |true=>
       rw[hlh,bH1]at h;have hlh:=bF9 hlh;have hhl:hh=l:=by omega
       subst hhl;cases h;rw[bQ4]at hr;exact⟨σ,_,w,hr,Sg.gr_refl _ σ,.vague _ _,hw⟩
      |false=>
       rw[hlh,bH2]at h;have hlh':l≠L:=fun e=>by rw[e,j9 rfl]at hlh;cases hlh
       split at h
       case h_2=>cases h
       rename_i tc k e' z' hg;obtain⟨k1,k2⟩:=hw.place hg hpi;cases hzk:Nat.beq z' ie.size with
       |false=>grind
       |true=>
        rw[hzk,bH1]at h;have hz':=bF9 hzk;have hes:p.esz=ie.size:=by grind
        cases h;have hcl:c'≠l:=by omega
        rw[bH4 hcl]at hr;refine⟨σ,_,w,hr,Sg.gr_refl _ σ,.slice i _ p _ _ _ hpi (.inr ⟨n9 _ _,by rw[F6 (by omega)];omega,by rw[E2 (by omega)];omega,?_⟩) (by omega),hw⟩
        rw[hes]at hbnd⊢;have:l*ie.size+(c'-l)*ie.size=c'*ie.size:=by rw[<-bJ0];congr 1;omega
        omega
   |false=>
    rw[hcu,bH2]at h;have hcu':¬unk<=cap:=fun h=>by rw[bG1 h]at hcu;cases hcu
    have hcap:cap=c'/\cap<unk:=by grind
    obtain⟨rfl,hcapu⟩:=hcap;cases hlc:Nat.ble len cap with
    |false=>grind
    |true=>
    rw[hlc,bH1]at h;split at h
    ·cases h
    ·rename_i l hh m hbo
     obtain⟨a1,a2,a3,a4⟩:=C7 (P:=P) (cap:=cap) hbo h1 h2 h3 (bH7 _) hll true;have hr:=runs l hh (m.getD cap) a4;have hmu:m.getD cap-l<unk:=by omega
     cases hml:Nat.beq (m.getD cap) l with
     |true=>
      rw[hml,bH1]at h;have hml:=bF9 hml;cases h;rw[bH6 hml]at hr;exact⟨σ,_,w,hr,Sg.gr_refl _ σ,.slice i o p _ _ _ hpi (.inl ⟨rfl,hmu⟩) (by omega),hw⟩
     |false=>
      rw[hml,bH2]at h;have hml':m.getD cap≠l:=fun e=>by rw[e,j9 rfl]at hml;cases hml
      cases h;rw[bH4 hml']at hr;exact⟨σ,_,w,hr,Sg.gr_refl _ σ,.slice i _ p _ _ _ hpi (.inl ⟨rfl,hmu⟩) (by omega),hw⟩
  ·cases h
 ·rename_i n e hu
  split at h
  ·cases h
  rename_i ie hie;split at h
  ·rename_i i o
   cases hx with
   |ptr _ _ p hpi=>
   cases hn:Nat.ble n 16777216 with
   |false=>grind
   |true=>
   rw[hn,bH1]at h;have hn:=bF8 hn;split at h
   ·cases h
   ·rename_i l hh m hbo
    obtain⟨a1,a2,a3,a4⟩:=C7 (P:=P) (cap:=n) hbo h1 h2 h3 (bH7 _) (bH7 _) false;have hr:(Instr.sliceAt t (.pointer (some ⟨p.blk,p.dl+o,none⟩)) lo' hi' mx').run P w= .ok (.slice (some (if m.getD n=l then⟨p.blk,p.dl+o,none⟩else⟨p.blk,p.dl+(o+l*ie.size),none⟩)) (hh-l) (m.getD n-l)) w:=by
     simp only[Instr.sliceAt,bI3,bH8 hu,bH9,Instr.sureAddr,a4,sizeOf,typeInfo,bP7,hie,bI8]
     by_cases hml:m.getD n=l
     ·simp[hml]
     ·simp[hml,bO7,bL4]
    have hmu:m.getD n-l<unk:=by unfold unk;omega
    cases hml:Nat.beq (m.getD n) l with
    |true=>
     rw[hml,bH1]at h;have hml:=bF9 hml;cases h;rw[bH6 hml]at hr;exact⟨σ,_,w,hr,Sg.gr_refl _ σ,.slice i o p _ _ _ hpi (.inl ⟨rfl,hmu⟩) (by omega),hw⟩
    |false=>
     rw[hml,bH2]at h;have hml':m.getD n≠l:=fun e=>by rw[e,j9 rfl]at hml;cases hml
     cases h;rw[bH4 hml']at hr;exact⟨σ,_,w,hr,Sg.gr_refl _ σ,.slice i _ p _ _ _ hpi (.inl ⟨rfl,hmu⟩) (by omega),hw⟩
  ·cases h
 ·cases h
end
end Go.Xe
end PartXm9
noncomputable section PartXmM
namespace Go.Xe
open Go.RowKit
section
variable {P :Program}{B:BS}{w0:World}{σ:Sg}{hp:Hp}{w:World}
def aD0 (hp : Hp) (it : Value) (isString : Bool) : Option (Value × Hp) :=
 match it,isString with
 | .pointer (some ⟨i, 0, none⟩), true => match hp.m.get i with
  | some (.sit s pos) => bif Nat.blt pos s.data.toList.length then
    some (.tuple #[.bool true,.int .i64 pos,.int .i32 (Utf8.decode s pos).1],{hp with m:=hp.m.set i (some (.sit s (pos+(Utf8.decode s pos).2)))})
   else some (.tuple #[.bool false],hp)
  |_=>none
 |_,_=>none
theorem VR.tup1 {σ:Sg}{a b:Value}(h:VR σ a b):VR σ (.tuple #[a]) (.tuple #[b]):=(VRL.cons h (VRL.nil σ)).to_tuple
theorem VR.tup2 {σ:Sg}{a b c d:Value}(h:VR σ a b)(k:VR σ c d):VR σ (.tuple #[a,c]) (.tuple #[b,d]):=(VRL.cons h (VRL.cons k (VRL.nil σ))).to_tuple
theorem VR.tup3 {σ:Sg}{a b c d e f:Value}(h:VR σ a b)(k:VR σ c d)(l:VR σ e f):VR σ (.tuple #[a,c,e]) (.tuple #[b,d,f]):=(VRL.cons h (VRL.cons k (VRL.cons l (VRL.nil σ)))).to_tuple
theorem J1 {r:Nat}{o:Obj}(h:w.heap[r]? =some o)(hc:∀c e f,o≠ .cells c e f):(getObj r).run P w= .ok o w:=by
 simp only[getObj,Sem.run,h]
theorem Q8 {r:Nat}{o o':Obj}(h:w.heap[r]? =some o)(hc:∀c e f,o≠ .cells c e f):(setObj r o').run P w= .ok () {w with heap:=w.heap.setIfInBounds r o'}:=by
 simp only[setObj,Sem.run,h]
theorem HR.setO (h : HR B w0 σ hp w) {i : Nat} {b b' : Blk} (hg : hp.m.get i = some b) {p : Pl} (hpi : σ i = some p) {o : Obj} (hb : BR σ p b' o) (hro : Q1 b = false := by rfl) (hro' : Q1 b' = false := by rfl) (hrg : X9 b = false := by rfl) (hrg' : X9 b' = false := by rfl) :
  HR B w0 σ {hp with m:=hp.m.set i (some b')} {w with heap:=w.heap.setIfInBounds p.blk o}:=by
 obtain⟨p',o',g1,_,g4,_⟩:=h.live i b hg hrg;have:p'=p:=bI0 (g1.symm.trans hpi);subst this;have hlt:=(bG9.1 g4).1;refine h.turn hg hpi ?_ (fun k hk=>?_) (by simp) rfl rfl rfl hb hro hro' hrg hrg'
 ·simp[hlt]
 ·simp[bP6 (Ne.symm hk)]
theorem aX1 {it it' v : Value} {isS : Bool} {hp' : Hp} (h : aD0 hp it isS = some (v, hp')) (hi : VR σ it it') (hw : HR B w0 σ hp w) (ty : TypeId) :
  MOK hp B w0 σ v hp' ((Instr.next it' isS ty).run P w):=by
 unfold aD0 at h;split at h
 ·rename_i i
  cases hi with
  |ptr _ _ p hpi=>
  split at h
  ·rename_i s pos hg
   obtain⟨p',o,g1,g2,g3,g4,g5⟩:=hw.live i _ hg;have:p'=p:=bI0 (g1.symm.trans hpi);subst this;subst g4;have hget:=J1 (P:=P) g3 (fun c e f h=>by cases h)
   cases hlt:Nat.blt pos s.data.toList.length with
   |true=>
    rw[hlt,bH1]at h;simp only[bF4,bF6]at h;obtain⟨rfl,rfl⟩:=h;have hpos:pos<s.size:=by have:=bF8 hlt;simp at this;omega
    have hset:=Q8 (P:=P) (o':= .stringIter s (pos+(Utf8.decode s pos).2)) g3 (fun c e f h=>by cases h)
    refine⟨σ,_,_,?_,Sg.gr_refl _ σ,VR.tup3 (.bool true) (.int .i64 pos) (.int .i32 _),hw.setO hg g1 (b':= .sit s (pos+(Utf8.decode s pos).2)) ⟨rfl,g5⟩⟩;simp[Instr.next,g5,hget,hpos,hset,goInt]
   |false=>
    rw[hlt,bH2]at h;simp only[bF4,bF6]at h;obtain⟨rfl,rfl⟩:=h;have hpos:¬pos<s.size:=by
     intro hc;rw[show Nat.blt pos s.data.toList.length=true from bG1 (by simp;omega)]at hlt
     cases hlt
    refine⟨σ,_,w,?_,Sg.gr_refl _ σ,VR.tup1 (.bool false),hw⟩;simp[Instr.next,g5,hget,hpos]
  ·cases h
 ·cases h
def aX7 (kind:TypeDesc)(a b:Value):Option Bool:=
 match kind,a,b with
 | .int _,.int k x,.int k' y=>bif decide (k=k')then some (decide (x=y))else none
 | .string,.string x,.string y=>some (x.data.toList==y.data.toList)
 | .bool,.bool x,.bool y=>some (x==y)
 |_,_,_=>none
theorem at7 {kind : TypeDesc} {a b a' b' : Value} {r : Bool} (h : aX7 kind a b = some r) (ha : VR σ a a') (hb : VR σ b b') :
  Instr.sameNow kind a' b'=some r/\(r=true->a=b/\Instr.sameBits 10000 b' a'=true):=by
 unfold aX7 at h;split at h
 ·rename_i k0 k x k' y
  cases ha;cases hb;cases hk:decide (k=k')with
  |false=>rw[hk]at h;cases h
  |true=>
   rw[hk]at h;simp only[bH5]at hk;subst hk;simp only[bH1,bF4]at h;subst h;refine⟨?_,fun hr=>?_⟩
   ·simp only[Instr.sameNow,bO6];congr 1
   ·simp only[bH5]at hr
    subst hr;exact⟨rfl,by simp[Instr.sameBits]⟩
 ·rename_i x y
  cases ha;cases hb;simp only[bF4]at h;subst h;have e:(x==y)=(x.data.toList==y.data.toList):=by rw[beq_toListBytes,bP8,bP8]
  refine⟨by simp only[Instr.sameNow,e],fun hr=>?_⟩
  have hxy:x=y:=by
   obtain⟨⟨x⟩⟩:=x;obtain⟨⟨y⟩⟩:=y;simp at hr;rw[hr]
  subst hxy;exact⟨rfl,by simp only[Instr.sameBits,e,hr]⟩
 ·rename_i x y
  cases ha;cases hb;simp only[bF4]at h;subst h;refine⟨rfl,fun hr=>?_⟩
  have hxy:x=y:=by simpa using hr
  subst hxy;exact⟨rfl,by simp[Instr.sameBits]⟩
 ·cases h
def as9 (kind:TypeDesc)(k:Value):List (Value×Value)->Nat->Option (Option (Nat×Value))
 | [],_=>some none
 |e::es,i=>match aX7 kind k e.1 with
  |some true=>some (some (i,e.2))
  |some false=>as9 kind k es (i+1)
  |none=>none
theorem at2 {kind : TypeDesc} {k k' : Value} (hk : VR σ k k') : ∀ {es : List (Value × Value)} {ents : List MapEntry} {i : Nat} {r : Option (Nat × Value)}, as9 kind k es i = some r →
  es.length=ents.length->(∀(j:Nat) x e,es[j]? =some x->ents[j]? =some e->VR σ x.1 e.key/\VR σ x.2 e.val)->
  (r=none->Instr.findNow kind k' ents i=some none)/\
  (∀n v,r=some (n,v)->i<=n/\ ∃u x e,Instr.findNow kind k' ents i=some (some (n,u))/\VR σ v u/\es[n-i]? =some x/\ents[n-i]? =some e/\x=(k,v)/\Instr.sameBits 10000 e.key k'=true)
 | [],ents,i,r,h,hl,_=>by
  simp only[as9,bF4]at h;subst h;have:ents=[]:=bG0 hl.symm;subst this;exact⟨fun _=>rfl,(fun n v h=>by cases h)⟩
 |x::es,[],i,r,h,hl,_=>by simp at hl
 |x::es,e::ents,i,r,h,hl,hr=>by
  obtain⟨h1,h2⟩:=hr 0 x e rfl rfl;simp only[as9]at h;split at h
  ·rename_i hs
   obtain⟨s1,s2⟩:=at7 hs hk h1;obtain⟨s3,s4⟩:=s2 rfl;simp only[bF4]at h;subst h;refine⟨(fun h=>by cases h),fun n v h=>?_⟩
   simp only[bF4,bF6]at h;obtain⟨rfl,rfl⟩:=h;exact⟨bH7 _,e.val,x,e,by simp only[Instr.findNow,s1],h2,by simp,by simp,by rw[s3],s4⟩
  ·rename_i hs
   obtain⟨s1,_⟩:=at7 hs hk h1;obtain⟨i1,i2⟩:=at2 (ents:=ents) hk h (by simpa using hl) (fun j x' e' hx he=>hr (j+1) x' e' (by simpa using hx) (by simpa using he))
   refine⟨fun hn=>by simp only[Instr.findNow,s1];exact i1 hn,fun n v hnv=>?_⟩
   obtain⟨j1,u,x',e',j2,j3,j4,j5,j6⟩:=i2 n v hnv;refine⟨by omega,u,x',e',by simp only[Instr.findNow,s1];exact j2,j3,?_,?_,j6⟩
   ·rw[show n-i=(n-(i+1))+1 by omega];simpa using j4
   ·rw[show n-i=(n-(i+1))+1 by omega];simpa using j5
  ·cases h
def aD8 (d:TypeDesc):Bool:=
 match d with
 | .int _| .string| .bool=>true
 |_=>false
theorem aL5 {t:TypeId}{d:TypeDesc}(hu:P.underlying t=some d)(hk:aD8 d=true)(b:Bool)(v:Value):(Instr.checkKey b 10000 t v).run P w= .ok () w:=by
 show(Instr.checkKey b (9999+1) t v).run P w= .ok () w;unfold Instr.checkKey;simp only[bI3,bH8 hu,bH9];cases d<;>simp[aD8]at hk<;>rfl
def ah5 (P:Program)(cs:List Value):List Field->Bool
 | []=>true
 |f::fs=>match P.underlying f.type,W8 P f.type cs f.offset with
  |some d,some _=>aD8 d&&ah5 P cs fs
  |_,_=>false
def aD5 :List Value->List Value->Bool
 | [],[]=>true
 | .int k x::xs,.int k' y::ys=>decide (k=k')&&decide (x=y)&&aD5 xs ys
 | .bool x::xs,.bool y::ys=>(x==y)&&aD5 xs ys
 | .string x::xs,.string y::ys=>(x.data.toList==y.data.toList)&&aD5 xs ys
 |_,_=>false
def xsb (a b:Value):Bool:=
 match a,b with
 | .agg xs,.agg ys=>aD5 xs.toList ys.toList
 |_,_=>false
theorem be3 : ∀ {xs ys xs' ys' : List Value}, aD5 xs ys = true → VRL σ xs xs' → VRL σ ys ys' →
  xs'.length=ys'.length/\(xs'.zip ys').all (fun p=>Instr.sameBits 9999 p.1 p.2)=true:=by
 intro xs
 induction xs with
 |nil=>
  intro ys xs' ys' h hx hy;cases ys with
  |nil=>rw[hx.unnil,hy.unnil];exact⟨rfl,rfl⟩
  |cons y ys=>simp[aD5]at h
 |cons x xs ih=>
  intro ys xs' ys' h hx hy;cases ys with
  |nil=>cases x<;>simp[aD5]at h
  |cons y ys=>
   obtain⟨x',xs',rfl,hx1,hx2⟩:=hx.uncons;obtain⟨y',ys',rfl,hy1,hy2⟩:=hy.uncons;unfold aD5 at h;split at h
   ·cases‹_::_=[]›
   ·rename_i k a _ k' b _ e1 e2
    simp only[bM3]at e1 e2;obtain⟨rfl,rfl⟩:=e1;obtain⟨rfl,rfl⟩:=e2;simp only[bF5,bH5]at h;obtain⟨⟨rfl,rfl⟩,h⟩:=h;obtain⟨l1,l2⟩:=ih h hx2 hy2;cases hx1;cases hy1;exact⟨by simp[l1],by simp only[List.zip_cons_cons,List.all_cons,l2,bO2];simp[Instr.sameBits]⟩
   ·rename_i a _ b _ e1 e2
    simp only[bM3]at e1 e2;obtain⟨rfl,rfl⟩:=e1;obtain⟨rfl,rfl⟩:=e2;simp only[bF5]at h;obtain⟨h1,h⟩:=h;obtain⟨l1,l2⟩:=ih h hx2 hy2;cases hx1;cases hy1;exact⟨by simp[l1],by simp only[List.zip_cons_cons,List.all_cons,l2,bO2];simpa [Instr.sameBits]using h1⟩
   ·rename_i a _ b _ e1 e2
    simp only[bM3]at e1 e2;obtain⟨rfl,rfl⟩:=e1;obtain⟨rfl,rfl⟩:=e2;simp only[bF5]at h;obtain⟨h1,h⟩:=h;obtain⟨l1,l2⟩:=ih h hx2 hy2;cases hx1;cases hy1;have e:(a==b)=(a.data.toList==b.data.toList):=by rw[beq_toListBytes,bP8,bP8]
    exact⟨by simp[l1],by simp only[List.zip_cons_cons,List.all_cons,l2,bO2];simp only[Instr.sameBits,e,h1]⟩
   ·cases h
theorem bp6 {a b a' b':Value}(h:xsb a b=true)(ha:VR σ a a')(hb:VR σ b b'):Instr.sameBits 10000 a' b'=true:=by
 unfold xsb at h;split at h
 ·obtain⟨xs',rfl,hx⟩:=VRL.of_agg ha
  obtain⟨ys',rfl,hy⟩:=VRL.of_agg hb;obtain⟨l1,l2⟩:=be3 h hx hy;show Instr.sameBits (9999+1) _ _=true;simp only[Instr.sameBits,bF5,beq_iff_eq];exact⟨by simpa using l1,l2⟩
 ·cases h
def Z9 (P:Program)(kt:TypeId)(k:Value):List (Value×Value)->Nat->Option (Option (Nat×Value))
 | [],_=>some none
 |e::es,i=>match xeq P 10000 kt k e.1 with
  |some true=>bif xsb e.1 k then some (some (i,e.2))else none
  |some false=>Z9 P kt k es (i+1)
  |none=>none
def R3 (P:Program)(kt:TypeId)(d:TypeDesc)(k:Value)(es:List (Value×Value)):Option (Option (Nat×Value)):=
 match d with
 | .struct fs=>match k with
  | .agg cs=>bif ah5 P cs.toList fs.toList then Z9 P kt k es 0 else none
  |_=>none
 |d=>bif aD8 d then as9 d k es 0 else none
theorem an3 {kt : TypeId} {k k' : Value} (hk : VR σ k k') (w : World) : ∀ {es : List (Value × Value)} {ents : List MapEntry} {i : Nat} {r : Option (Nat × Value)}, Z9 P kt k es i = some r →
  es.length=ents.length->(∀(j:Nat) x e,es[j]? =some x->ents[j]? =some e->VR σ x.1 e.key/\VR σ x.2 e.val)->
  (r=none->(Instr.findAsking kt k' ents i).run P w= .ok none w)/\
  (∀n v,r=some (n,v)->i<=n/\ ∃u x e,(Instr.findAsking kt k' ents i).run P w= .ok (some (n,u)) w/\VR σ v u/\es[n-i]? =some x/\ents[n-i]? =some e/\Instr.sameBits 10000 e.key k'=true)
 | [],ents,i,r,h,hl,_=>by
  simp only[Z9,bF4]at h;subst h;have:ents=[]:=bG0 hl.symm;subst this;exact⟨fun _=>by simp[Instr.findAsking],(fun n v h=>by cases h)⟩
 |x::es,[],i,r,h,hl,_=>by simp at hl
 |x::es,e::ents,i,r,h,hl,hr=>by
  obtain⟨h1,h2⟩:=hr 0 x e rfl rfl;simp only[Z9]at h;split at h
  ·rename_i hs
   have s1:(Op.equal kt k' e.key).run P w= .ok true w:=ap9 10000 kt k x.1 true hs k' e.key hk h1 w;cases hb:xsb x.1 k with
   |false=>rw[hb]at h;cases h
   |true=>
   rw[hb,bH1]at h;simp only[bF4]at h;subst h;refine⟨(fun h=>by cases h),fun n v h=>?_⟩
   simp only[bF4,bF6]at h;obtain⟨rfl,rfl⟩:=h;exact⟨bH7 _,e.val,x,e,by simp only[Instr.findAsking,bI3,s1,bH9,bO6,bI8],h2,by simp,by simp,bp6 hb h1 hk⟩
  ·rename_i hs
   have s1:(Op.equal kt k' e.key).run P w= .ok false w:=ap9 10000 kt k x.1 false hs k' e.key hk h1 w;obtain⟨i1,i2⟩:=an3 (ents:=ents) hk w h (by simpa using hl) (fun j x' e' hx he=>hr (j+1) x' e' (by simpa using hx) (by simpa using he))
   have step:(Instr.findAsking kt k' (e::ents) i).run P w=(Instr.findAsking kt k' ents (i+1)).run P w:=by
    simp only[Instr.findAsking,bI3,s1,bH9,bM6,bO5]
   refine⟨fun hn=>by rw[step];exact i1 hn,fun n v hnv=>?_⟩
   obtain⟨j1,u,x',e',j2,j3,j4,j5,j6⟩:=i2 n v hnv;refine⟨by omega,u,x',e',by rw[step];exact j2,j3,?_,?_,j6⟩
   ·rw[show n-i=(n-(i+1))+1 by omega];simpa using j4
   ·rw[show n-i=(n-(i+1))+1 by omega];simpa using j5
  ·cases h
theorem aE2 {t : TypeId} {fs : Array Field} (hu : P.underlying t = some (.struct fs)) {cs : List Value} {cs' : Array Value} (hc : VRL σ cs cs'.toList) (hk : ah5 P cs fs.toList = true) (b : Bool) (w : World) :
  (Instr.checkKey b 10000 t (.agg cs')).run P w= .ok () w:=by
 have key : ∀ (l : List Field), ah5 P cs l = true → (forIn l PUnit.unit (fun f _ => do
   if f.name≠ "_" then Instr.checkKey b 9999 f.type (<-part f.type cs' f.offset)
   pure (ForInStep.yield PUnit.unit)):Sem PUnit).run P w= .ok PUnit.unit w:=by
  intro l
  induction l with
  |nil=>intro _;simp
  |cons f l ih=>
   intro hl;simp only[ah5]at hl;split at hl
   ·rename_i d v hd hp
    simp only[bF5]at hl;obtain⟨u,_,hu⟩:=N7 hp hc;have hck:∀v,(Instr.checkKey b 9999 f.type v).run P w= .ok () w:=by
     intro v;show(Instr.checkKey b (9998+1) f.type v).run P w= .ok () w;unfold Instr.checkKey;simp only[bI3,bH8 hd,bH9];have:=hl.1;cases d<;>simp[aD8]at this<;>rfl
    rw[List.forIn_cons,bI3]
    by_cases hn:f.name= "_"
    ·simp only[ne_eq,hn,not_true_eq_false,bO5,bI8,bH9]
     exact ih hl.2
    ·simp only[ne_eq,hn,bL0,bO6,bI3,hu,hck,bI8,bH9]
     exact ih hl.2
   ·cases hl
 show(Instr.checkKey b (9999+1) t (.agg cs')).run P w= .ok () w;unfold Instr.checkKey;simp only[bI3,bH8 hu,bH9];have:=key fs.toList hk;simp at this;simp[this]
theorem D4 {kt : TypeId} {d : TypeDesc} (hd : P.underlying kt = some d) {k k' : Value} (hk : VR σ k k') {es : List (Value × Value)} {ents : List MapEntry} {r : Option (Nat × Value)} (h : R3 P kt d k es = some r)
  (hl:es.length=ents.length) (hr:∀(j:Nat) x e,es[j]? =some x->ents[j]? =some e->VR σ x.1 e.key/\VR σ x.2 e.val) (w:World):
  (∀b,(Instr.checkKey b 10000 kt k').run P w= .ok () w)/\(r=none->(Instr.findKey kt k' ents).run P w= .ok none w)/\
  (∀n v,r=some (n,v)-> ∃u x e,(Instr.findKey kt k' ents).run P w= .ok (some (n,u)) w/\VR σ v u/\es[n]? =some x/\ents[n]? =some e/\Instr.sameBits 10000 e.key k'=true):=by
 unfold R3 at h;split at h
 ·rename_i fs
  split at h
  ·rename_i cs
   obtain⟨cs',rfl,hcs⟩:=VRL.of_agg hk;cases hb:ah5 P cs.toList fs.toList with
   |false=>rw[hb]at h;cases h
   |true=>
   rw[hb,bH1]at h;obtain⟨f1,f2⟩:=an3 hk w h hl hr;have hfk:(Instr.findKey kt (.agg cs') ents).run P w=(Instr.findAsking kt (.agg cs') ents 0).run P w:=by
    simp only[Instr.findKey,bI3,bH8 hd,bH9];cases ents with
    |nil=>simp[Instr.findNow,Instr.findAsking]
    |cons e ents=>simp[Instr.findNow,Instr.sameNow]
   refine⟨fun b=>aE2 hd hcs hb b w,fun hn=>by rw[hfk];exact f1 hn,fun n v hnv=>?_⟩
   obtain⟨_,u,x,e,g1,g2,g3,g4,g5⟩:=f2 n v hnv;rw[bN6]at g3 g4;exact⟨u,x,e,by rw[hfk];exact g1,g2,g3,g4,g5⟩
  ·cases h
 ·cases hkb:aD8 d with
  |false=>rw[hkb]at h;cases h
  |true=>
   rw[hkb,bH1]at h;obtain⟨f1,f2⟩:=at2 hk h hl hr;refine⟨fun b=>aL5 hd hkb b k',fun hn=>?_,fun n v hnv=>?_⟩
   ·simp only[Instr.findKey,bI3,bH8 hd,bH9,f1 hn,bI8]
   ·obtain⟨_,u,x,e,g1,g2,g3,g4,_,g5⟩:=f2 n v hnv
    rw[bN6]at g3 g4;exact⟨u,x,e,by simp only[Instr.findKey,bI3,bH8 hd,bH9,g1,bI8],g2,g3,g4,g5⟩
def D0 (P : Program) (hp : Hp) (t : TypeId) (x k : Value) (ok : Bool) : Option Value :=
 match P.underlying t with
 | some (.map kt et) => match P.underlying kt with
  | some d =>
    match(match x with
     | .map none=>some []
     | .map (some i)=>match hp.m.get i with
      |some (.map es _)=>some es
      |_=>none
     |_=>none)with
    |none=>none
    |some es=>match R3 P kt d k es with
     |some (some (_,v))=>some (bif ok then .tuple #[v,.bool true]else v)
     |some none=>match G5 P et with
      |some z=>some (bif ok then .tuple #[z,.bool false]else z)
      |none=>none
     |none=>none
  |none=>none
 |_=>none
theorem aF4 {t : TypeId} {x x' k k' v : Value} {ok : Bool} (h : D0 P hp t x k ok = some v) (hx : VR σ x x') (hk : VR σ k k') (hw : HR B w0 σ hp w) :
  ∃u,VR σ v u/\(Instr.lookup t x' k' ok).run P w= .ok u w:=by
 unfold D0 at h;split at h
 ·rename_i kt et hu
  split at h
  ·rename_i d hd
   have main : ∀ (es : List (Value × Value)) (ents : List MapEntry), es.length = ents.length → (∀ (j : Nat) x e, es[j]? = some x → ents[j]? = some e → VR σ x.1 e.key ∧ VR σ x.2 e.val) →
     (match R3 P kt d k es with
      |some (some (_,v))=>some (bif ok then .tuple #[v,.bool true]else v)
      |some none=>match G5 P et with
       |some z=>some (bif ok then .tuple #[z,.bool false]else z)
       |none=>none
      |none=>none)=some v->
     (∀b,(Instr.checkKey b 10000 kt k').run P w= .ok () w)/\ ∃u,VR σ v u/\(do
      let(v,ok')<-match<-Instr.findKey kt k' ents with
       |some (_,v)=>pure (v,true)
       |none=>pure (<-zeroValue et,false)
      pure (if ok then .tuple #[v,.bool ok']else v):Sem Value).run P w= .ok u w:=by
    intro es ents hl hr h;split at h
    ·rename_i n v0 hf
     obtain⟨hck,_,f3⟩:=D4 hd hk hf hl hr w;obtain⟨u,x1,e1,hfk,f2,_⟩:=f3 n v0 rfl;simp only[bF4]at h;subst h;refine⟨hck,if ok then .tuple #[u,.bool true]else u,?_,?_⟩
     ·cases ok
      ·exact f2
      ·exact VR.tup2 f2 (.bool true)
     ·simp only[bI3,hfk,bH9,bI8]
    ·rename_i hf
     obtain⟨hck,f2,_⟩:=D4 hd hk hf hl hr w;have hfk:=f2 rfl;split at h
     ·rename_i z hz
      obtain⟨hc,hzr⟩:=D6 hz;simp only[bF4]at h;subst h;refine⟨hck,if ok then .tuple #[z,.bool false]else z,?_,?_⟩
      ·cases ok
       ·exact M4 σ hc
       ·exact VR.tup2 (M4 σ hc) (.bool false)
      ·simp only[bI3,hfk,bH9,hzr,bI8]
     ·cases h
    ·cases h
   split at h
   ·cases h
   ·rename_i es hes
    split at hes
    ·simp only[bF4]at hes
     subst hes;cases hx;obtain⟨hck,u,h1,h2⟩:=main [] [] rfl (fun j x e hx=>by simp at hx) h
     refine⟨u,h1,?_⟩;simp only[Instr.lookup,bI3,bH8 hu,bH9,bI8,hck];simp only[bI3]at h2;exact h2
    ·rename_i i
     split at hes
     ·rename_i es' reg' hg
      simp only[bF4]at hes;subst hes;cases hx with
      |map _ p hpi=>
      obtain⟨p',o,g1,_,g3,ents,clock,rfl,g4,g5,g6⟩:=hw.live i _ hg;have:p'=p:=bI0 (g1.symm.trans hpi);subst this;have hget:=J1 (P:=P) g3 (fun c e f h=>by cases h)
      obtain⟨hck,u,h1,h2⟩:=main es' ents.toList (by simpa using g4.symm) (fun j x e hx he=>g5 j x e hx (by simpa using he)) h
      refine⟨u,h1,?_⟩;simp only[Instr.lookup,bI3,bH8 hu,bH9,hget,bI8,hck];simp only[bI3]at h2;exact h2
     ·cases hes
    ·cases hes
  ·cases h
 ·cases h
def T6 (P : Program) (hp : Hp) (t : TypeId) (m k x : Value) : Option Hp :=
 match P.underlying t with
 | some (.map kt _) => match P.underlying kt with
  | some d =>
    match m with
    | .map (some i)=>match hp.m.get i with
     |some (.map es reg)=>match R3 P kt d k es with
      |some (some (n,_))=>some {hp with m:=hp.m.set i (some (.map (es.set n (k,x)) reg))}
      |some none=>some {hp with m:=hp.m.set i (some (.map (es++ [(k,x)]) reg))}
      |none=>none
     |_=>none
    |_=>none
  |none=>none
 |_=>none
theorem ah6 {t : TypeId} {m m' k k' x x' : Value} {hp' : Hp} (h : T6 P hp t m k x = some hp') (hm : VR σ m m') (hk : VR σ k k') (hx : VR σ x x') (hw : HR B w0 σ hp w) :
  ∃w',(Instr.mapUpdate t m' k' x').run P w= .ok () w'/\HR B w0 σ hp' w'/\hp'.nx=hp.nx:=by
 unfold T6 at h;split at h
 ·rename_i kt et hu
  split at h
  ·rename_i d hd
   split at h
   ·rename_i i
    cases hm with
    |map _ p hpi=>
    split at h
    ·rename_i es reg hg
     obtain⟨p',o,g1,_,g3,ents,clock,rfl,g4,g5,g6⟩:=hw.live i _ hg;have:p'=p:=bI0 (g1.symm.trans hpi);subst this;have hget:=J1 (P:=P) g3 (fun c e f h=>by cases h)
     have hset:=fun o'=>Q8 (P:=P) (o':=o') g3 (fun c e f h=>by cases h)
     have hl:es.length=ents.toList.length:=by simpa using g4.symm
     have hr:∀(j:Nat) x e,es[j]? =some x->ents.toList[j]? =some e->VR σ x.1 e.key/\VR σ x.2 e.val:=fun j x e hx he=>g5 j x e hx (by simpa using he)
     split at h
     ·rename_i n v0 hf
      obtain⟨hck,_,f0⟩:=D4 hd hk hf hl hr w;obtain⟨u,x1,e1,hfk,f2,f3,f4,f6⟩:=f0 n v0 rfl;have he1:ents[n]? =some e1:=by simpa using f4
      simp only[bF4]at h;subst h;have hks:(Instr.keyThatStays e1.key k').run P w= .ok k' w:=by
       simp only[Instr.keyThatStays,f6,bO6,bI8]
      refine⟨_,?_,hw.setO hg g1 (b':= .map (es.set n (k,x)) reg) (o:= .map (ents.modify n fun e=> {e with key:=k',val:=x'}) clock) ⟨_,_,rfl,by simp[g4],fun j y e hy he=>?_,fun hreg=>?_⟩,rfl⟩
      ·simp only[Instr.mapUpdate,bI3,bH8 hu,bH9,hget,hck,hfk,he1,bJ9,bJ6,hks,hset]
      ·rw[bQ8]at hy
       rw[bO9]at he
       by_cases hnj:n=j
       ·subst hnj
        rw[bH6 rfl]at hy he;have hlt:n<es.length:=by rw[hl];exact(bF7.1 f4).1
        rw[bH6 hlt]at hy;simp only[bF4]at hy;rw[he1]at he;simp only[bJ9,bF4]at he;subst hy;subst he;exact⟨hk,hx⟩
       ·rw[bH4 hnj]at hy he
        exact g5 j y e hy he
      ·obtain⟨c1,c2⟩:=g6 hreg
       refine⟨by simp[c1],fun j e he=>?_⟩
       rw[bO9]at he
       by_cases hnj:n=j
       ·subst hnj
        rw[bH6 rfl,he1]at he;simp only[bJ9,bF4]at he;subst he;exact c2 n e1 he1
       ·rw[bH4 hnj]at he
        exact c2 j e he
     ·rename_i hf
      obtain⟨hck,f0,_⟩:=D4 hd hk hf hl hr w;have hfk:=f0 rfl;simp only[bF4]at h;subst h;refine⟨_,?_,hw.setO hg g1 (b':= .map (es++ [(k,x)]) reg) (o:= .map (ents.push {key:=k',val:=x',born:=clock}) (clock+1)) ⟨_,_,rfl,by simp[g4],fun j y e hy he=>?_,fun hreg=>?_⟩,rfl⟩
      ·simp only[Instr.mapUpdate,bI3,bH8 hu,bH9,hget,hck,hfk,hset]
      ·rw[List.getElem?_append]at hy
       rw[Array.getElem?_push]at he
       by_cases hj:j<es.length
       ·rw[bH6 hj]at hy
        rw[bH4 (by omega)]at he
        exact g5 j y e hy he
       ·rw[bH4 hj]at hy
        have hj2:j-es.length=0:=by
         have:=(bF7.1 hy).1;simp at this;omega
        rw[hj2]at hy;simp only[bH0,bF4]at hy;rw[bH6 (by omega)]at he
        simp only[bF4]at he;subst hy;subst he;exact⟨hk,hx⟩
      ·obtain⟨c1,c2⟩:=g6 hreg
       refine⟨by simp[c1],fun j e he=>?_⟩
       rw[Array.getElem?_push]at he
       by_cases hj:j=ents.size
       ·rw[bH6 hj]at he
        simp only[bF4]at he;subst he;exact c1.trans hj.symm
       ·rw[bH4 hj]at he
        exact c2 j e he
     ·cases h
    ·cases h
   ·cases h
  ·cases h
 ·cases h
def H4 (P : Program) (hp : Hp) (t : TypeId) (m k : Value) : Option (Value × Hp) :=
 match P.underlying t with
 | some (.map kt et) => match P.underlying kt with
  | some d =>
    match m with
    | .map (some i)=>match hp.m.get i with
     |some (.map es true)=>match R3 P kt d k es with
      |some (some (n,v))=>match es[n]? with
       |some y=>some (.tuple #[v,.int .i64 n],{hp with m:=hp.m.set i (some (.map (es.set n (k,y.2)) true))})
       |none=>none
      |some none=>match G5 P et with
       |some z=>some (.tuple #[z,.int .i64 es.length],{hp with m:=hp.m.set i (some (.map (es++ [(k,z)]) true))})
       |none=>none
      |none=>none
     |_=>none
    |_=>none
  |none=>none
 |_=>none
theorem au8 {t : TypeId} {m m' k k' v : Value} {hp' : Hp} (h : H4 P hp t m k = some (v, hp')) (hm : VR σ m m') (hk : VR σ k k') (hw : HR B w0 σ hp w) :
  MOK hp B w0 σ v hp' ((Instr.mapEntry t m' k').run P w):=by
 unfold H4 at h;split at h
 ·rename_i kt et hu
  split at h
  ·rename_i d hd
   split at h
   ·rename_i i
    cases hm with
    |map _ p hpi=>
    split at h
    ·rename_i es hg
     obtain⟨p',o,g1,_,g3,ents,clock,rfl,g4,g5,g6⟩:=hw.live i _ hg;have:p'=p:=bI0 (g1.symm.trans hpi);subst this;obtain⟨c1,c2⟩:=g6 rfl;have hget:=J1 (P:=P) g3 (fun c e f h=>by cases h)
     have hset:=fun o'=>Q8 (P:=P) (o':=o') g3 (fun c e f h=>by cases h)
     have hl:es.length=ents.toList.length:=by simpa using g4.symm
     have hr:∀(j:Nat) x e,es[j]? =some x->ents.toList[j]? =some e->VR σ x.1 e.key/\VR σ x.2 e.val:=fun j x e hx he=>g5 j x e hx (by simpa using he)
     split at h
     ·rename_i n v0 hf
      obtain⟨hck,_,f0⟩:=D4 hd hk hf hl hr w;obtain⟨u,x1,e1,hfk,f2,f3,f4,f6⟩:=f0 n v0 rfl;have he1:ents[n]? =some e1:=by simpa using f4
      rw[f3]at h;simp only[bF4,bF6]at h;obtain⟨rfl,rfl⟩:=h;have hks:(Instr.keyThatStays e1.key k').run P w= .ok k' w:=by
       simp only[Instr.keyThatStays,f6,bO6,bI8]
      refine⟨σ,.tuple #[u,goInt e1.born],_,?_,Sg.gr_refl _ σ,?_,hw.setO hg g1 (b':= .map (es.set n (k,x1.2)) true) (o:= .map (ents.modify n fun e=> {e with key:=k'}) clock) ⟨_,_,rfl,by simp[g4],fun j y e hy he=>?_,fun _=>?_⟩⟩
      ·simp only[Instr.mapEntry,bI3,bH8 hu,bH9,hget,hck,hfk,he1,bJ9,bJ6,hks,hset,bI8]
      ·rw[c2 n e1 he1]
       exact VR.tup2 f2 (.int _ _)
      ·rw[bQ8]at hy
       rw[bO9]at he
       by_cases hnj:n=j
       ·subst hnj
        rw[bH6 rfl]at hy he;have hlt:n<es.length:=by rw[hl];exact(bF7.1 f4).1
        rw[bH6 hlt]at hy;simp only[bF4]at hy;rw[he1]at he;simp only[bJ9,bF4]at he;subst hy;subst he;exact⟨hk,(g5 n x1 e1 f3 he1).2⟩
       ·rw[bH4 hnj]at hy he
        exact g5 j y e hy he
      ·refine⟨by simp[c1],fun j e he=>?_⟩
       rw[bO9]at he
       by_cases hnj:n=j
       ·subst hnj
        rw[bH6 rfl,he1]at he;simp only[bJ9,bF4]at he;subst he;exact c2 n e1 he1
       ·rw[bH4 hnj]at he
        exact c2 j e he
     ·rename_i hf
      obtain⟨hck,f0,_⟩:=D4 hd hk hf hl hr w;have hfk:=f0 rfl;split at h
      ·rename_i z hz
       obtain⟨hc,hzr⟩:=D6 hz;simp only[bF4,bF6]at h;obtain⟨rfl,rfl⟩:=h;refine⟨σ,.tuple #[z,goInt clock],_,?_,Sg.gr_refl _ σ,?_,hw.setO hg g1 (b':= .map (es++ [(k,z)]) true) (o:= .map (ents.push {key:=k',val:=z,born:=clock}) (clock+1)) ⟨_,_,rfl,by simp[g4],fun j y e hy he=>?_,fun _=>?_⟩⟩
       ·simp only[Instr.mapEntry,bI3,bH8 hu,bH9,hget,hck,hfk,hzr,hset,bI8]
       ·rw[c1,g4]
        exact VR.tup2 (M4 σ hc) (.int _ _)
       ·rw[List.getElem?_append]at hy
        rw[Array.getElem?_push]at he
        by_cases hj:j<es.length
        ·rw[bH6 hj]at hy
         rw[bH4 (by omega)]at he
         exact g5 j y e hy he
        ·rw[bH4 hj]at hy
         have hj2:j-es.length=0:=by
          have:=(bF7.1 hy).1;simp at this;omega
         rw[hj2]at hy;simp only[bH0,bF4]at hy;rw[bH6 (by omega)]at he
         simp only[bF4]at he;subst hy;subst he;exact⟨hk,M4 σ hc⟩
       ·refine⟨by simp[c1],fun j e he=>?_⟩
        rw[Array.getElem?_push]at he
        by_cases hj:j=ents.size
        ·rw[bH6 hj]at he
         simp only[bF4]at he;subst he;exact c1.trans hj.symm
        ·rw[bH4 hj]at he
         exact c2 j e he
      ·cases h
     ·cases h
    ·cases h
   ·cases h
  ·cases h
 ·cases h
def J8 (hp:Hp)(m s x:Value):Option Hp:=
 match m,s with
 | .map (some i),.int _ (.ofNat n)=>match hp.m.get i with
  |some (.map es true)=>match es[n]? with
   |some y=>some {hp with m:=hp.m.set i (some (.map (es.set n (y.1,x)) true))}
   |none=>none
  |_=>none
 |_,_=>none
theorem an0 {t : TypeId} {m m' s s' x x' : Value} {hp' : Hp} (h : J8 hp m s x = some hp') (hm : VR σ m m') (hs : VR σ s s') (hx : VR σ x x') (hw : HR B w0 σ hp w) :
  ∃w',(Instr.entryStore t m' s' x').run P w= .ok () w'/\HR B w0 σ hp' w'/\hp'.nx=hp.nx:=by
 unfold J8 at h;split at h
 ·rename_i i kd n
  cases hm with
  |map _ p hpi=>
  cases hs;split at h
  ·rename_i es hg
   obtain⟨p',o,g1,_,g3,ents,clock,rfl,g4,g5,g6⟩:=hw.live i _ hg;have:p'=p:=bI0 (g1.symm.trans hpi);subst this;obtain⟨c1,c2⟩:=g6 rfl;have hget:=J1 (P:=P) g3 (fun c e f h=>by cases h)
   have hset:=fun o'=>Q8 (P:=P) (o':=o') g3 (fun c e f h=>by cases h)
   split at h
   ·rename_i y hy
    simp only[bF4]at h;subst h;have hn:n<ents.size:=by rw[g4];exact(bF7.1 hy).1
    have he1:ents[n]? =some ents[n]:=by simp[hn]
    have hfi:ents.findIdx? (fun e=>(e.born:Int)==Int.ofNat n)=some n:=by
     rw[Array.findIdx?_eq_some_iff_getElem];refine⟨hn,?_,fun j hj=>?_⟩
     ·rw[c2 n _ he1];simp
     ·have:=c2 j ents[j] (by simp[show j<ents.size by omega])
      rw[this];simp only[Int.ofNat_eq_natCast,beq_iff_eq,Int.natCast_inj];omega
    refine⟨_,?_,hw.setO hg g1 (b':= .map (es.set n (y.1,x)) true) (o:= .map (ents.modify n fun e=> {e with val:=x'}) clock) ⟨_,_,rfl,by simp[g4],fun j z e hz he=>?_,fun _=>?_⟩,rfl⟩
    ·simp only[Instr.entryStore,bI3,bH9,hget,asInt,asIntOf,bI8,hfi,hset]
    ·rw[bQ8]at hz
     rw[bO9]at he
     by_cases hnj:n=j
     ·subst hnj
      rw[bH6 rfl]at hz he;rw[bH6 (by rw[<-g4];exact hn)]at hz
      simp only[bF4]at hz;rw[he1]at he;simp only[bJ9,bF4]at he;subst hz;subst he;exact⟨(g5 n y _ hy he1).1,hx⟩
     ·rw[bH4 hnj]at hz he
      exact g5 j z e hz he
    ·refine⟨by simp[c1],fun j e he=>?_⟩
     rw[bO9]at he
     by_cases hnj:n=j
     ·subst hnj
      rw[bH6 rfl,he1]at he;simp only[bJ9,bF4]at he;subst he;exact c2 n ents[n] he1
     ·rw[bH4 hnj]at he
      exact c2 j e he
   ·cases h
  ·cases h
 ·cases h
def T5 (hp:Hp)(P:Program)(t:TypeId)(x:Value):Option Value:=
 match P.underlying t,x with
 |some (.map _ _),.map (some i)=>match hp.m.get i with
  |some (.map es _)=>some (.int .i64 es.length)
  |_=>none
 |_,_=>au7 P t x
theorem aW9 {t : TypeId} {x x' v : Value} (h : T5 hp P t x = some v) (hx : VR σ x x') (hw : HR B w0 σ hp w) (ty : TypeId) (ats : Array TypeId) (hat : ats[0]? = some t) :
  VR σ v v/\(Builtin.len_ ats ty #[x']).run P w= .ok v w:=by
 unfold T5 at h;split at h
 ·rename_i kt et i hu
  split at h
  ·rename_i es hg
   simp only[bF4]at h;subst h;cases hx with
   |map _ p hpi=>
   obtain⟨p',o,g1,_,g3,ents,clock,rfl,g4,g5,g6⟩:=hw.live i _ hg;have:p'=p:=bI0 (g1.symm.trans hpi);subst this;have hget:=J1 (P:=P) g3 (fun c e f h=>by cases h)
   refine⟨.int _ _,?_⟩;simp[Builtin.len_,hat,bH8 hu,hget,goInt,g4]
  ·cases h
 ·exact⟨(aC5 (P:=P) h hx ty ats hat).1,(aC5 (P:=P) h hx ty ats hat).2 w⟩
end
end Go.Xe
end PartXmM
noncomputable section PartXmC
namespace Go.Xe
open Go.RowKit
def T8 (f:Value->Value->Bool):List Value->List Value->Bool
 | [],[]=>true
 |x::xs,y::ys=>f x y&&T8 f xs ys
 |_,_=>false
theorem X3 {f:Value->Value->Bool}(hf:∀x y,f x y=true->x=y):∀ {xs ys:List Value},T8 f xs ys=true->xs=ys
 | [],[],_=>rfl
 |x::xs,y::ys,h=>by
  simp only[T8,bF5]at h;rw[hf _ _ h.1,X3 hf h.2]
 | [],_::_,h=>by cases h
 |_::_,[],h=>by cases h
def veq :Nat->Value->Value->Bool
 |0,_,_=>false
 |n+1,x,y=>match x,y with
  | .bool a,.bool b=>a==b
  | .int j a,.int k b=>decide (j=k)&&decide (a=b)
  | .string a,.string b=>a.data.toList==b.data.toList
  | .pointer a,.pointer b=>decide (a=b)
  | .slice a l c,.slice b l' c'=>decide (a=b)&&Nat.beq l l'&&Nat.beq c c'
  | .map a,.map b=>decide (a=b)
  | .nilFunc,.nilFunc=>true
  | .nilIface,.nilIface=>true
  | .iface t v,.iface u w=>Nat.beq t u&&veq n v w
  | .agg a,.agg b=>T8 (veq n) a.toList b.toList
  | .tuple a,.tuple b=>T8 (veq n) a.toList b.toList
  | .func f a c,.func g b d=>decide (f=g)&&T8 (veq n) a.toList b.toList&&T8 (veq n) c.toList d.toList
  | .complex f a b,.complex g c d=>decide (f=g)&&Nat.beq a c&&Nat.beq b d
  | .chan a,.chan b=>decide (a=b)
  |_,_=>false
theorem ap5 :∀(n:Nat) (x y:Value),veq n x y=true->x=y:=by
 intro n
 induction n with
 |zero=>intro x y h;cases h
 |succ n ih=>
  intro x y h;simp only[veq]at h;split at h
  ·simp at h;rw[h]
  ·simp only[bF5,bH5]at h;rw[h.1,h.2]
  ·rename_i a b
   obtain⟨⟨a⟩⟩:=a;obtain⟨⟨b⟩⟩:=b;simp at h;rw[h]
  ·simp only[bH5]at h;rw[h]
  ·simp only[bF5,bH5]at h;rw[h.1.1,bF9 h.1.2,bF9 h.2]
  ·simp only[bH5]at h;rw[h]
  ·rfl
  ·rfl
  ·simp only[bF5]at h;rw[bF9 h.1,ih _ _ h.2]
  ·rw[bN5 (X3 ih h)]
  ·rw[bN5 (X3 ih h)]
  ·simp only[bF5,bH5]at h;rw[h.1.1,bN5 (X3 ih h.1.2),bN5 (X3 ih h.2)]
  ·simp only[bF5,bH5]at h;rw[h.1.1,bF9 h.1.2,bF9 h.2]
  ·simp only[bH5]at h;rw[h]
  ·cases h
section
variable {P :Program}{B:BS}{w0:World}{σ:Sg}{hp:Hp}{w:World}
def ap6 (P : Program) (hp : Hp) (t : TypeId) (x : Value) : Option (Value × Hp) :=
 match P.underlying t with
 | some (.slice e) => match x with
  | .slice none _ _=>some (.tuple #[],hp)
  | .slice (some _) 0 _=>some (.tuple #[],hp)
  | .slice (some ⟨i, o, none⟩) (n + 1) _ => match G5 P e with
   |none=>none
   | some z => match hp.m.get i with
    | some (.cells c k e' z') => bif Nat.ble (o + (xrep (n + 1) z.cells.toList).length) k && (xrep (n + 1) z.cells.toList).all Value.oneCell' then
      some (.tuple #[],aq3 hp i c k e' z' o (xrep (n+1) z.cells.toList))
     else none
    |_=>none
  |_=>none
 |some (.map _ _)=>match x with
  | .map none=>some (.tuple #[],hp)
  | .map (some i)=>match hp.m.get i with
   |some (.map _ _)=>some (.tuple #[],{hp with m:=hp.m.set i (some (.map [] false))})
   |_=>none
  |_=>none
 |_=>none
theorem aN5 {t : TypeId} {x x' : Value} {v : Value} {hp' : Hp} (h : ap6 P hp t x = some (v, hp')) (hx : VR σ x x') (hw : HR B w0 σ hp w) (ty : TypeId) :
  MOK hp B w0 σ v hp' ((Builtin.clear_ #[t] ty #[x']).run P w):=by
 have tup:VR σ (.tuple #[]) (.tuple #[]):=VRL.to_tuple (VRL.nil σ);unfold ap6 at h;split at h
 ·rename_i e ht
  split at h
  ·simp only[bF4,bF6]at h
   obtain⟨rfl,rfl⟩:=h;cases hx;refine⟨σ,.tuple #[],w,?_,Sg.gr_refl _ σ,tup,hw⟩;simp[Builtin.clear_,bH8 ht]
  ·simp only[bF4,bF6]at h
   obtain⟨rfl,rfl⟩:=h;cases hx<;>exact⟨σ,.tuple #[],w,by simp[Builtin.clear_,bH8 ht],Sg.gr_refl _ σ,tup,hw⟩
  ·rename_i i o n c0
   split at h
   ·cases h
   rename_i z hz;split at h
   case h_2=>cases h
   rename_i c k e' z' hg;cases hx with
   |slice _ _ p _ _ c' hpi hcc hll=>
   obtain⟨k1,k2⟩:=hw.place hg hpi;cases hb:Nat.ble (o+(xrep (n+1) z.cells.toList).length) k&&(xrep (n+1) z.cells.toList).all Value.oneCell' with
   |false=>rw[hb]at h;cases h
   |true=>
    rw[hb,bH1,P0]at h;simp only[bF5]at hb;have hin:=bF8 hb.1;simp only[bF4,bF6]at h;obtain⟨rfl,rfl⟩:=h;obtain⟨hc,hzr⟩:=D6 hz;have hv:VRL σ (xrep (n+1) z.cells.toList) (xrep (n+1) z.cells.toList):=(M4 σ hc).cells.xrep (n+1);have hone:=hv.all_oneCell hb.2;obtain⟨w',hst,hh,_⟩:=hw.store (o:=o) hg hpi hv hone (by omega) (by omega) P
    have hcl:(Builtin.zeroCells z.cells (n+1)).toList=xrep (n+1) z.cells.toList:=af0 z.cells (n+1);refine⟨σ,.tuple #[],w',?_,Sg.gr_refl _ σ,tup,?_⟩
    ·simp[Builtin.clear_,bH8 ht,hzr,hcl,hst]
    ·rw[show max k (o+(xrep (n+1) z.cells.toList).length)=k by omega]at hh
     exact hh
  ·cases h
 ·rename_i kt et ht
  split at h
  ·simp only[bF4,bF6]at h
   obtain⟨rfl,rfl⟩:=h;cases hx;refine⟨σ,.tuple #[],w,?_,Sg.gr_refl _ σ,tup,hw⟩;simp[Builtin.clear_,bH8 ht]
  ·rename_i i
   split at h
   case h_2=>cases h
   rename_i es reg hg;simp only[bF4,bF6]at h;obtain⟨rfl,rfl⟩:=h;cases hx with
   |map _ p hpi=>
   obtain⟨p',o,g1,_,g3,ents,clock,rfl,g4,g5,g6⟩:=hw.live i _ hg;have:p'=p:=bI0 (g1.symm.trans hpi);subst this;have hget:=J1 (P:=P) g3 (fun c e f h=>by cases h)
   have hset:=Q8 (P:=P) (o':= .map #[] clock) g3 (fun c e f h=>by cases h)
   refine⟨σ,.tuple #[],_,?_,Sg.gr_refl _ σ,tup,hw.setO hg g1 (b':= .map [] false) (o:= .map #[] clock) ⟨_,_,rfl,rfl,(fun j y e hy he=>by simp at hy),fun hr=>by cases hr⟩⟩
   simp[Builtin.clear_,bH8 ht,hget,hset]
  ·cases h
 ·cases h
def R0 (P : Program) (hp : Hp) (t u : TypeId) (s x : Value) : Option (Value × Hp) :=
 match P.underlying t,P.underlying u with
 | some (.slice e), some (.int _) => match P.info? e with
  |none=>none
  | some ie => match ie.zero with
   |none=>none
   | some z => match s, x with
    | .slice (some ⟨i, o, none⟩) sLen sCap, .int _ (.ofNat cnt) =>
     bif cst z && Nat.beq z.cells.toList.length ie.size && Nat.ble ie.bytes 1048576 && Nat.ble 1 ie.size && Nat.ble 1 cnt && Nat.ble (sLen + cnt) 67108864 &&
       (Nat.ble unk sCap&&Nat.ble 1 (B5 sCap)&&Nat.ble (B5 sCap) (sLen+cnt))then
      match hp.m.get i with
      | some (.cells c k _ _) => bif Nat.ble (o + sLen * ie.size) k then
        match l9 c o (sLen*ie.size)with
        |some olds=>some (.slice (some ⟨hp.nx,0,none⟩) (sLen+cnt) (d8 (sLen+cnt) 0),hp.new (olds++xrep cnt z.cells.toList) e ie.size)
        |none=>none
       else none
      |_=>none
     else none
    |_,_=>none
 |_,_=>none
theorem aB6 {t u : TypeId} {s s' x x' : Value} {v : Value} {hp' : Hp} (h : R0 P hp t u s x = some (v, hp')) (hs : VR σ s s') (hx : VR σ x x') (hw : HR B w0 σ hp w) (ty : TypeId) :
  MOK hp B w0 σ v hp' ((Builtin.append_ #[t,u] ty #[s',x']).run P w):=by
 unfold R0 at h;split at h
 case h_2=>cases h
 rename_i e ik ht hu;split at h
 ·cases h
 rename_i ie hie;split at h
 ·cases h
 rename_i z hz;split at h
 case h_2=>cases h
 rename_i i o sLen sCap kq cnt;cases hb : cst z && Nat.beq z.cells.toList.length ie.size && Nat.ble ie.bytes 1048576 && Nat.ble 1 ie.size && Nat.ble 1 cnt && Nat.ble (sLen + cnt) 67108864 &&
       (Nat.ble unk sCap&&Nat.ble 1 (B5 sCap)&&Nat.ble (B5 sCap) (sLen+cnt))with
 |false=>rw[hb]at h;cases h
 |true=>
 rw[hb,bH1]at h;simp only[bF5]at hb;obtain⟨⟨⟨⟨⟨⟨b1,b2⟩,b3⟩,b4⟩,b5⟩,b6⟩,⟨b7,b8⟩,b9⟩:=hb;have ez:z.cells.size=ie.size:=by have:=bF9 b2;simpa using this
 have b3:=bF8 b3;have b4:=bF8 b4;have b5:=bF8 b5;have b6:=bF8 b6;have b7:=bF8 b7;have b8:=bF8 b8;have b9:=bF8 b9;split at h
 case h_2=>cases h
 rename_i c k e' z' hg;cases hok:Nat.ble (o+sLen*ie.size) k with
 |false=>rw[hok]at h;cases h
 |true=>
 rw[hok,bH1]at h;have hok:=bF8 hok;split at h
 case h_2=>cases h
 rename_i olds hlo;simp only[bF4,bF6]at h;obtain⟨rfl,rfl⟩:=h;cases hx;cases hs with
 |slice _ _ p _ _ c' hpi hcc hll=>
 have hlt:c'<sLen+cnt:=by
  rcases hcc with⟨_,h⟩| ⟨_,_,h,_⟩<;>omega
 obtain⟨us0,hv0,hlen0,hc0⟩:=hw.cells hg hok hlo hpi;have hr:=Lib.run_append_grow_zeros (P:=P) w t u ty e ie z kq ik ht hu hie hz (some ⟨p.blk,p.dl+o,none⟩) sLen c' us0
  (run_firstCells_some w.drew ie.size sLen _ sLen c' us0 hlen0 (fun j u hu=>(ae5 (w:=w) (w':=w.drew) rfl _).trans (hc0 j u hu))) cnt (by omega) (by omega) hlt (by omega)
  (by have:=Nat.mul_le_mul (show cnt<=67108864 by omega) b3;omega) (growslice_fits hlt (by have:=Nat.mul_le_mul b6 b3;omega))
 have hzc:(Builtin.zeroCells z.cells cnt).toList=xrep cnt z.cells.toList:=af0 z.cells cnt;have hvz:VRL σ (xrep cnt z.cells.toList) (Builtin.zeroCells z.cells cnt).toList:=by rw[hzc];exact(M4 σ b1).cells.xrep cnt
 have hcat:=hv0.append hvz;have hge:=grownCap_ge w (sLen+cnt) c' e;have hgr:=hw.grown hcat (Builtin.zeroCells z.cells (grownCap w (sLen+cnt) c' e-(sLen+cnt))) (fill .e 0 (olds++xrep cnt z.cells.toList)) (fun j hj=>A3 _ j hj) e ie.size
 have hul:(us0++(Builtin.zeroCells z.cells cnt).toList).length=(sLen+cnt)*ie.size:=by
  rw[bI1,hlen0,Array.length_toList,size_zeroCells,ez,bJ0]
 rw[show(us0++(Builtin.zeroCells z.cells cnt).toList).toArray=us0.toArray++Builtin.zeroCells z.cells cnt by apply bN5;simp]at hgr
 refine⟨_,_,_,hr,hw.le_new _,VR.unkSlice σ hp.nx ⟨w.heap.size,0,(us0++(Builtin.zeroCells z.cells cnt).toList).length+(Builtin.zeroCells z.cells (grownCap w (sLen+cnt) c' e-(sLen+cnt))).size,ie.size⟩ rfl hge ?_,?_⟩
 ·show grownCap w (sLen+cnt) c' e*ie.size<=(us0++(Builtin.zeroCells z.cells cnt).toList).length+_
  rw[size_zeroCells,hul,ez,<-bJ0];exact bG7 _ (by omega)
 ·simpa [Hp.new]using hgr
def bC0 (P:Program)(g:FuncId)(t:TypeId):Prop:=
 ∃fn r,P.funcs[g]? =some fn/\(fn.name== "runtime.NumGoroutine")=false/\fn.body.isNone=true/\Extern.findNext fn=none/\Extern.find fn=some (Extern.SlicesOverlaps.overlaps #[t,t] #[r])
def aX4 (P : Program) (hp : Hp) (t : TypeId) (args : List Value) : Option (Value × Hp) :=
 match P.underlying t with
 | some (.slice e) => match P.info? e with
  | some _ => match args with
   | [.slice (some ⟨i, _, none⟩) _ _, .slice (some ⟨j, _, none⟩) _ _] => bif Nat.beq i j then none else
     match hp.m.get i,hp.m.get j with
     |some (.cells _ _ _ _),some (.cells _ k _ _)=>bif Nat.ble 1 k then some (.bool false,hp)else none
     |_,_=>none
   |_=>none
  |none=>none
 |_=>none
def ah2 :TypeId:=4294967295
def isT :Option TypeId->Bool
 |some t=>Nat.beq t ah2
 |none=>false
def aY6 (P:Program)(g:FuncId):Prop:=∀w,Calls P g #[] w fun e w'=>e= .returned (.bool true)/\Below w.heap.size w w'
def ah9 (P:Program)(g:FuncId)(t:TypeId):Prop:=(t=ah2/\aY6 P g)\/(t≠ah2/\bC0 P g t)
theorem HR.below (h:HR B w0 σ hp w){w':World}(k:Below w.heap.size w w'):HR B w0 σ hp w':=by
 refine⟨k.os.trans h.os,k.tape.trans h.tape,k.output.trans h.output,bL2 h.size k.size,h.old,fun i hi=>?_,h.frs,fun i b r hg hx=>?_,h.ij,h.rz⟩
 ·rw[k.block i (bK7 (h.old i hi) h.size)];exact h.kept i hi
 ·obtain⟨p,o,g1,g2,g3,g4⟩:=h.liv i b r hg hx
  exact⟨p,o,g1,g2,by rw[k.block p.blk (bG9.1 g3).1];exact g3,g4⟩
theorem aX5 {g : FuncId} {t : TypeId} (ho : bC0 P g t) {args args' : List Value} {v : Value} {hp' : Hp} (h : aX4 P hp t args = some (v, hp')) (ha : VRL σ args args') (hw : HR B w0 σ hp w) :
  hp'=hp/\ ∃u,VR σ v u/\(callFunc g args'.toArray).run P w= .ok (.value u) w:=by
 unfold aX4 at h;split at h
 case h_2=>cases h
 rename_i e ht;split at h
 case h_2=>cases h
 rename_i ie hie;split at h
 case h_2=>cases h
 rename_i i o1 l1 c1 j o2 l2 c2;cases hij:Nat.beq i j with
 |true=>rw[hij]at h;cases h
 |false=>
 rw[hij,bH2]at h;have hij':i≠j:=fun e=>by rw[e,j9 rfl]at hij;cases hij
 split at h
 case h_2=>cases h
 rename_i ci ki ei zi cj kj ej zj hgi hgj;cases hk:Nat.ble 1 kj with
 |false=>rw[hk]at h;cases h
 |true=>
 rw[hk,bH1]at h;have hk:=bF8 hk;simp only[bF4,bF6]at h;obtain⟨rfl,rfl⟩:=h;obtain⟨a1,r,rfl,ha1,hr⟩:=ha.uncons;obtain⟨a2,r,rfl,ha2,hr⟩:=hr.uncons;rw[hr.unnil]at*;cases ha1 with
 |slice _ _ p _ _ c1' hpi hc1 hl1=>
 cases ha2 with
 |slice _ _ q _ _ c2' hqj hc2 hl2=>
 obtain⟨fn,rt,f1,f2,f3,f4,f5⟩:=ho;have hne:p.blk≠q.blk:=hw.inj i j _ _ p q hgi hgj hij' hpi hqj;refine⟨rfl,.bool false,.bool false,?_⟩;obtain⟨p',C,g1,g2,g3,g4,g5,g6,g7⟩:=hw.liveC hgi;have:p'=p:=bI0 (g1.symm.trans hpi);subst this;obtain⟨q',D,m1,m2,m3,m4,m5,m6,m7⟩:=hw.liveC hgj;have:q'=q:=bI0 (m1.symm.trans hqj);subst this;have hsz:∀w,(Go.sizeOf e).run P w= .ok ie.size w:=fun w=>by simp[sizeOf,typeInfo,hie]
 rw[run_callFunc_extern f1 f2 f3 f4 f5];have hap:=Lib.run_overlaps_apart (P:=P) w t rt e ht ie.size hsz ⟨p'.blk,p'.dl+o1,none⟩ ⟨q'.blk,q'.dl+o2,none⟩ l1 c1' l2 c2' hne ei ej C.size D.size
  (by simp[World.shape?,g4]) (by simp[World.shape?,m4]) (by omega) (by simp[World.frozen?,g4]) (by simp[World.frozen?,g4])
 rw[hap];rfl
end
end Go.Xe
end PartXmC
noncomputable section PartXm10
namespace Go.Xe
open Go.RowKit
def U8 (tm:T Value):List (Nat×Operand)->Option (List (Nat×Value))
 | []=>some []
 | (i,x)::xs=>match d6 tm x with
  |some v=>match U8 tm xs with
   |some vs=>some ((i,v)::vs)
   |none=>none
  |none=>none
theorem aj9 {σ : Sg} {tm : T Value} {a : Act} : ∀ {xs : List (Nat × Operand)} {vs : List (Nat × Value)}, (∀ p ∈ xs, ∀ v, d6 tm p.2 = some v → VR σ v (a.eval p.2)) → U8 tm xs = some vs →
  PVR σ vs (xs.map fun p=>(p.1,a.eval p.2))
 | [],vs,_,hx=>by simp[U8]at hx;subst hx;exact⟨rfl,fun i x y h _=>by simp at h⟩
 | (i,x)::xs,vs,h,hx=>by
  simp only[U8]at hx;cases hv:d6 tm x with
  |none=>simp[hv]at hx
  |some v=>
   cases hr:U8 tm xs with
   |none=>simp[hv,hr]at hx
   |some r=>
    simp[hv,hr]at hx;subst hx;have ih:=aj9 (fun p hp=>h p (by simp[hp])) hr
    refine⟨by simp[ih.1],fun j p q hp hq=>?_⟩
    cases j with
    |zero=>simp at hp hq;subst hp;subst hq;exact⟨rfl,h (i,x) (by simp) _ hv⟩
    |succ j=>simp only[bG5,bK5]at hp hq;exact ih.2 j p q hp hq
def ag3 (tm:T Value):Option Operand->Option (Option Value)
 |none=>some none
 |some x=>match d6 tm x with
  |some v=>some (some v)
  |none=>none
theorem an6 {σ:Sg}{tm:T Value}{a:Act}{x:Option Operand}(h:∀y,x=some y-> ∀v,d6 tm y=some v->VR σ v (a.eval y)){v:Option Value}(hx:ag3 tm x=some v):OVR σ v (x.map a.eval):=by
 cases x with
 |none=>simp only[ag3,bF4]at hx;subst hx;exact trivial
 |some x=>
  simp only[ag3]at hx;cases hv:d6 tm x with
  |none=>simp[hv]at hx
  |some u=>simp only[hv,bF4]at hx;subst hx;exact h x rfl _ hv
theorem an1 {σ:Sg}{tm:T Value}{a:Act}:∀ {xs:List Operand} {vs:List Value},(∀x∈xs,∀v,d6 tm x=some v->VR σ v (a.eval x))->ag2 tm xs=some vs->VRL σ vs (xs.map a.eval)
 | [],vs,_,hx=>by simp[ag2]at hx;subst hx;exact VRL.nil σ
 |x::xs,vs,h,hx=>by
  simp only[ag2]at hx;cases hv:d6 tm x with
  |none=>simp[hv]at hx
  |some v=>
   cases hr:ag2 tm xs with
   |none=>simp[hv,hr]at hx
   |some r=>simp[hv,hr]at hx;subst hx;exact VRL.cons (h x (by simp) _ hv) (an1 (fun y hy=>h y (by simp[hy])) hr)
def f8 (hp:Hp):Option Value->Option (Value×Hp)
 |some v=>some (v,hp)
 |none=>none
theorem i5 {hp hp':Hp}{x:Option Value}{v:Value}(h:f8 hp x=some (v,hp')):x=some v/\hp'=hp:=by
 cases x with
 |none=>cases h
 |some u=>simp only[f8,bF4,bF6]at h;exact⟨by rw[h.1],h.2.symm⟩
structure f9 where
 run:FuncId->List Value->Hp->Option (Value×Hp)
 ov:FuncId->Option TypeId
 round:Nat->List Value->Hp->Option (Value×Hp)
def ao8 (fn:Func):Bool:=fn.body.isSome&& !(fn.name== "runtime.NumGoroutine")
def z9 (P:Program)(hp:Hp)(b:Builtin)(ats:List TypeId)(args:List Value):Option (Value×Hp):=
 match b,ats,args with
 | .append,[t,u],[s,x]=>match A8 P hp t u s x with
  |some r=>some r
  |none=>R0 P hp t u s x
 | .clear,[t],[x]=>ap6 P hp t x
 | .copy,[t,_],[d,x]=>aJ2 P hp t d x
 | .len,[t],[x]=>f8 hp (T5 hp P t x)
 | .cap,[t],[x]=>f8 hp (am9 P t x)
 | .min,_,x::xs=>f8 hp (ab0 false x xs)
 | .max,_,x::xs=>f8 hp (ab0 true x xs)
 |_,_,_=>none
def aB8 (P : Program) (call : f9) (hp : Hp) (f : Value) (args : List Value) : Option (Value × Hp) :=
 match f with
 | .func (.func g) first captured => match P.funcs[g]? with
  | some fn => bif ao8 fn then call.run g (first.toList ++ args ++ captured.toList) hp else
    match call.ov g with
    |some t=>bif Nat.beq t ah2 then none else aX4 P hp t (first.toList++args++captured.toList)
    |none=>none
  |none=>none
 | .chan (some i)=>call.round i args hp
 |_=>none
def xnw (P:Program)(tm:T Value)(o:Op):Option Nw:=
 match o with
 | .alloc e=>bif Nat.beq e rgT then none else am8 P e
 | .box e x=>bif Nat.beq e rgT then none else match d6 tm x with
  |some v=>some (aW3 e v)
  |none=>none
 | .buildSlice t len parts=>match U8 tm parts.toList with
  |some ps=>bo5 P t len ps
  |none=>none
 | .makeSlice t l c=>match d6 tm l with
  |some v=>match d6 tm c with
   |some u=>bp2 P t v u
   |none=>none
  |none=>none
 | .makeMap t r=>match ag3 tm r with
  |some v=>match P.underlying t with
   |some (.map _ _)=>bi9 v
   |_=>none
  |none=>none
 | .range t x=>match d6 tm x with
  |some v=>an7 P t v
  |none=>none
 |_=>none
def M0 (hp:Hp):Option Nw->Option (Value×Hp)
 |some n=>some (hp.add n)
 |none=>none
def ay9 (P:Program)(tm:T Value)(hp:Hp)(e:TypeId):Option (Value×Hp):=
 bif Nat.beq e rgT then match G5 P e with
  |some z=>aC9 hp z.cells.toList
  |none=>none
 else M0 hp (xnw P tm (.alloc e))
def bu0 (P:Program)(tm:T Value)(hp:Hp)(e:TypeId)(x:Operand):Option (Value×Hp):=
 bif Nat.beq e rgT then match d6 tm x with
  |some v=>aC9 hp v.cells.toList
  |none=>none
 else M0 hp (xnw P tm (.box e x))
def oPick (tm:T Value)(hp:Hp)(c:Operand)(a:Operand)(b:Operand):Option (Value×Hp):=
 match d6 tm c with
  |some (.bool t)=>bif t then f8 hp (d6 tm a)else f8 hp (d6 tm b)
  |_=>none
def oNext (tm:T Value)(hp:Hp)(it:Operand)(isS:Bool):Option (Value×Hp):=
 match d6 tm it with
  |some v=>aD0 hp v isS
  |none=>none
def bA0 (P:Program)(tm:T Value)(hp:Hp)(t:TypeId)(x:Operand)(k:Operand)(ok:Bool):Option (Value×Hp):=
 match d6 tm x with
  |some v=>match d6 tm k with
   |some u=>f8 hp (D0 P hp t v u ok)
   |none=>none
  |none=>none
def az1 (P:Program)(tm:T Value)(hp:Hp)(t:TypeId)(m:Operand)(k:Operand)(x:Operand):Option (Value×Hp):=
 match d6 tm m with
  |some mv=>match d6 tm k with
   |some kv=>match d6 tm x with
    |some xv=>match T6 P hp t mv kv xv with
     |some hp'=>some (undef,hp')
     |none=>none
    |none=>none
   |none=>none
  |none=>none
def bl7 (P:Program)(tm:T Value)(hp:Hp)(t:TypeId)(m:Operand)(k:Operand):Option (Value×Hp):=
 match d6 tm m with
  |some mv=>match d6 tm k with
   |some kv=>H4 P hp t mv kv
   |none=>none
  |none=>none
def aS7 (tm:T Value)(hp:Hp)(m:Operand)(s:Operand)(x:Operand):Option (Value×Hp):=
 match d6 tm m with
  |some mv=>match d6 tm s with
   |some sv=>match d6 tm x with
    |some xv=>match J8 hp mv sv xv with
     |some hp'=>some (undef,hp')
     |none=>none
    |none=>none
   |none=>none
  |none=>none
def bD9 (P:Program)(tm:T Value)(hp:Hp)(t:TypeId)(parts:Array (Nat×Operand)):Option (Value×Hp):=
 match U8 tm parts.toList with
  |some ps=>f8 hp (aj3 P t ps)
  |none=>none
def oLoad (P:Program)(tm:T Value)(hp:Hp)(t:TypeId)(a:Operand):Option (Value×Hp):=
 match d6 tm a with
  |some v=>f8 hp (E8 P hp t v)
  |none=>none
def bE3 (P:Program)(tm:T Value)(hp:Hp)(t:TypeId)(a:Operand)(x:Operand):Option (Value×Hp):=
 match d6 tm a with
  |some v=>match d6 tm x with
   |some u=>match N9 P hp t v u with
    |some hp'=>some (undef,hp')
    |none=>none
   |none=>none
  |none=>none
def bl8 (tm:T Value)(hp:Hp)(x:Operand):Option (Value×Hp):=
 match d6 tm x with
  |some (.pointer (some p))=>some (.pointer (some p),hp)
  |some (.func (.func f) a b)=>some (.func (.func f) a b,hp)
  |_=>none
def bD8 (P:Program)(tm:T Value)(hp:Hp)(op:BinOp)(t:TypeId)(x:Operand)(y:Operand):Option (Value×Hp):=
 match d6 tm x with
  |some v=>match d6 tm y with
   |some u=>f8 hp (F9 P op t v u)
   |none=>none
  |none=>none
def oUnOp (tm:T Value)(hp:Hp)(op:UnOp)(x:Operand):Option (Value×Hp):=
 match d6 tm x with
  |some v=>f8 hp (xun op v)
  |none=>none
def bu1 (P:Program)(tm:T Value)(hp:Hp)(s:TypeId)(d:TypeId)(x:Operand):Option (Value×Hp):=
 match d6 tm x with
  |some v=>f8 hp (ah3 P s d v)
  |none=>none
def az0 (P:Program)(tm:T Value)(hp:Hp)(t:TypeId)(x:Operand):Option (Value×Hp):=
 match d6 tm x with
  |some v=>f8 hp (aj7 P t v)
  |none=>none
def bl6 (tm:T Value)(hp:Hp)(fn:Fn)(first:Array Operand)(captured:Array Operand):Option (Value×Hp):=
 match ag2 tm first.toList with
  |some fs=>match ag2 tm captured.toList with
   |some cs=>some (.func fn fs.toArray cs.toArray,hp)
   |none=>none
  |none=>none
def bE2 (P:Program)(tm:T Value)(hp:Hp)(t:TypeId)(x:Operand)(lo:Option Operand)(hi:Option Operand)(mx:Option Operand):Option (Value×Hp):=
 match d6 tm x with
  |some v=>match ag3 tm lo with
   |some l=>match ag3 tm hi with
    |some h=>match ag3 tm mx with
     |some m=>p8 P hp t v l h m
     |none=>none
    |none=>none
   |none=>none
  |none=>none
def ba6 (P:Program)(tm:T Value)(hp:Hp)(t:TypeId)(x:Operand)(f:Nat):Option (Value×Hp):=
 match d6 tm x with
  |some v=>f8 hp (J2 P t v f)
  |none=>none
def bE0 (P:Program)(tm:T Value)(hp:Hp)(t:TypeId)(x:Operand)(f:Nat):Option (Value×Hp):=
 match d6 tm x with
  |some v=>f8 hp (aj6 P t v f)
  |none=>none
def ba7 (P:Program)(tm:T Value)(hp:Hp)(t:TypeId)(x:Operand)(i:Operand):Option (Value×Hp):=
 match d6 tm x with
  |some v=>match d6 tm i with
   |some u=>f8 hp (B4 P t v u)
   |none=>none
  |none=>none
def bE1 (P:Program)(tm:T Value)(hp:Hp)(t:TypeId)(x:Operand)(i:Operand):Option (Value×Hp):=
 match d6 tm x with
  |some v=>match d6 tm i with
   |some u=>f8 hp (ae3 P t v u)
   |none=>none
  |none=>none
def bu2 (tm:T Value)(hp:Hp)(x:Operand)(i:Nat):Option (Value×Hp):=
 match d6 tm x with
  |some v=>f8 hp (R1 v i)
  |none=>none
def oCall (P:Program)(call:f9)(tm:T Value)(hp:Hp)(c:Call):Option (Value×Hp):=
 match ag2 tm c.args.toList with
  |some args=>match c.callee with
   | .builtin b=>z9 P hp b c.argTypes.toList args
   | .value f=>match d6 tm f with
    |some v=>aB8 P call hp v args
    |none=>none
   |_=>none
  |none=>none
def xop (P:Program)(call:f9)(tm:T Value)(hp:Hp)(o:Op):Option (Value×Hp):=
 Op.rec (motive:=fun _=>Program->f9->T Value->Hp->Option (Value×Hp))
  (fun x _ _ tm hp=>f8 hp (d6 tm x))
  (fun x _ _ tm hp=>f8 hp (d6 tm x))
  (fun c a b _ _ tm hp=>oPick tm hp c a b)
  (fun e P _ tm hp=>ay9 P tm hp e)
  (fun e x P _ tm hp=>bu0 P tm hp e x)
  (fun t parts P _ tm hp=>bD9 P tm hp t parts)
  (fun t len parts P _ tm hp=>M0 hp (xnw P tm (.buildSlice t len parts)))
  (fun t m k x P _ tm hp=>az1 P tm hp t m k x)
  (fun t a P _ tm hp=>oLoad P tm hp t a)
  (fun t a x P _ tm hp=>bE3 P tm hp t a x)
  (fun _ _ _ _ _=>none)
  (fun _ _ _ _ _=>none)
  (fun x _ _ tm hp=>bl8 tm hp x)
  (fun op t x y _ P _ tm hp=>bD8 P tm hp op t x y)
  (fun op _ x _ _ tm hp=>oUnOp tm hp op x)
  (fun s d x P _ tm hp=>bu1 P tm hp s d x)
  (fun _ _ _ _ _ _=>none)
  (fun t x P _ tm hp=>az0 P tm hp t x)
  (fun fn first captured _ _ tm hp=>bl6 tm hp fn first captured)
  (fun t r P _ tm hp=>M0 hp (xnw P tm (.makeMap t r)))
  (fun _ _ _ _ _ _=>none)
  (fun t l c P _ tm hp=>M0 hp (xnw P tm (.makeSlice t l c)))
  (fun t x lo hi mx P _ tm hp=>bE2 P tm hp t x lo hi mx)
  (fun t x f P _ tm hp=>ba6 P tm hp t x f)
  (fun t x f P _ tm hp=>bE0 P tm hp t x f)
  (fun t x i P _ tm hp=>ba7 P tm hp t x i)
  (fun t x i P _ tm hp=>bE1 P tm hp t x i)
  (fun t x k ok P _ tm hp=>bA0 P tm hp t x k ok)
  (fun t m k x P _ tm hp=>az1 P tm hp t m k x)
  (fun t m k P _ tm hp=>bl7 P tm hp t m k)
  (fun _ m s x _ _ tm hp=>aS7 tm hp m s x)
  (fun t x P _ tm hp=>M0 hp (xnw P tm (.range t x)))
  (fun it isS _ _ tm hp=>oNext tm hp it isS)
  (fun _ _ _ _ _=>none)
  (fun _ _ _ _ _ _ _ _=>none)
  (fun x i _ _ tm hp=>bu2 tm hp x i)
  (fun c P call tm hp=>oCall P call tm hp c)
  (fun _ _ _ _ _=>none)
  (fun _ _ _ _ _=>none)
  (fun _ _ _ _ _=>none)
  (fun _ _ _ _ _ _=>none)
  (fun _ _ _ _ _ _ _=>none)
  (fun _ _ _ _ _ _=>none)
  o P call tm hp
def j8 (P:Program)(call:f9)(tm:T Value)(hp:Hp)(o:Op):Option (Value×Hp):=
 match o with
 | .move x=>f8 hp (d6 tm x)
 | .assign x=>f8 hp (d6 tm x)
 | .pick c a b=>match d6 tm c with
  |some (.bool t)=>bif t then f8 hp (d6 tm a)else f8 hp (d6 tm b)
  |_=>none
 | .alloc e=>ay9 P tm hp e
 | .box e x=>bu0 P tm hp e x
 | .makeMap t r=>M0 hp (xnw P tm (.makeMap t r))
 | .range t x=>M0 hp (xnw P tm (.range t x))
 | .next it isS=>match d6 tm it with
  |some v=>aD0 hp v isS
  |none=>none
 | .lookup t x k ok=>match d6 tm x with
  |some v=>match d6 tm k with
   |some u=>f8 hp (D0 P hp t v u ok)
   |none=>none
  |none=>none
 | .mapEntry t m k=>match d6 tm m with
  |some mv=>match d6 tm k with
   |some kv=>H4 P hp t mv kv
   |none=>none
  |none=>none
 | .entryStore _ m s x=>match d6 tm m with
  |some mv=>match d6 tm s with
   |some sv=>match d6 tm x with
    |some xv=>match J8 hp mv sv xv with
     |some hp'=>some (undef,hp')
     |none=>none
    |none=>none
   |none=>none
  |none=>none
 | .mapUpdate t m k x=>match d6 tm m with
  |some mv=>match d6 tm k with
   |some kv=>match d6 tm x with
    |some xv=>match T6 P hp t mv kv xv with
     |some hp'=>some (undef,hp')
     |none=>none
    |none=>none
   |none=>none
  |none=>none
 | .insert t m k x=>match d6 tm m with
  |some mv=>match d6 tm k with
   |some kv=>match d6 tm x with
    |some xv=>match T6 P hp t mv kv xv with
     |some hp'=>some (undef,hp')
     |none=>none
    |none=>none
   |none=>none
  |none=>none
 | .build t parts=>match U8 tm parts.toList with
  |some ps=>f8 hp (aj3 P t ps)
  |none=>none
 | .buildSlice t len parts=>M0 hp (xnw P tm (.buildSlice t len parts))
 | .load t a=>match d6 tm a with
  |some v=>f8 hp (E8 P hp t v)
  |none=>none
 | .store t a x=>match d6 tm a with
  |some v=>match d6 tm x with
   |some u=>match N9 P hp t v u with
    |some hp'=>some (undef,hp')
    |none=>none
   |none=>none
  |none=>none
 | .nilCheck x=>match d6 tm x with
  |some (.pointer (some p))=>some (.pointer (some p),hp)
  |some (.func (.func f) a b)=>some (.func (.func f) a b,hp)
  |_=>none
 | .binOp op t x y _=>match d6 tm x with
  |some v=>match d6 tm y with
   |some u=>f8 hp (F9 P op t v u)
   |none=>none
  |none=>none
 | .unOp op _ x=>match d6 tm x with
  |some v=>f8 hp (xun op v)
  |none=>none
 | .convert s d x=>match d6 tm x with
  |some v=>f8 hp (ah3 P s d v)
  |none=>none
 | .makeInterface t x=>match d6 tm x with
  |some v=>f8 hp (aj7 P t v)
  |none=>none
 | .makeFunc fn first captured=>match ag2 tm first.toList with
  |some fs=>match ag2 tm captured.toList with
   |some cs=>some (.func fn fs.toArray cs.toArray,hp)
   |none=>none
  |none=>none
 | .makeSlice t l c=>M0 hp (xnw P tm (.makeSlice t l c))
 | .slice t x lo hi mx=>match d6 tm x with
  |some v=>match ag3 tm lo with
   |some l=>match ag3 tm hi with
    |some h=>match ag3 tm mx with
     |some m=>p8 P hp t v l h m
     |none=>none
    |none=>none
   |none=>none
  |none=>none
 | .fieldAddr t x f=>match d6 tm x with
  |some v=>f8 hp (J2 P t v f)
  |none=>none
 | .field t x f=>match d6 tm x with
  |some v=>f8 hp (aj6 P t v f)
  |none=>none
 | .indexAddr t x i=>match d6 tm x with
  |some v=>match d6 tm i with
   |some u=>f8 hp (B4 P t v u)
   |none=>none
  |none=>none
 | .index t x i=>match d6 tm x with
  |some v=>match d6 tm i with
   |some u=>f8 hp (ae3 P t v u)
   |none=>none
  |none=>none
 | .extract x i=>match d6 tm x with
  |some v=>f8 hp (R1 v i)
  |none=>none
 | .call c=>match ag2 tm c.args.toList with
  |some args=>match c.callee with
   | .builtin b=>z9 P hp b c.argTypes.toList args
   | .value f=>match d6 tm f with
    |some v=>aB8 P call hp v args
    |none=>none
   |_=>none
  |none=>none
 |_=>none
theorem c8 (P:Program)(call:f9)(tm:T Value)(hp:Hp)(o:Op):xop P call tm hp o=j8 P call tm hp o:=by cases o<;>rfl
def RF (r:Option Nat):Fence:= {Fence.wide with round:=r}
theorem f7 {P:Program}{r:Option Nat}{o:Oper}{a:Act}{w:World}{next:Act->World->Prop}{Q:Exit->Act->World->Prop}(nd:∀c,o.op≠ .defer c)(h:o.wp P a w next Q):o.wpIn (RF r) 0 P a w next Q:=by
 have hd:(RF r).depth.isSome=true->1<=0:=fun h=>by cases h
 refine⟨fun _ _=>trivial,?_⟩
 rw[Oper.semAt_eq _ _ _ nd];unfold Oper.wp at h;generalize (execOp a.eval o).run P w=x at h;cases x with
 |ok n w'=>
  cases n<;>simp only[Oper.upon]at h<;>simp only[Oper.uponIn]<;>first
   |exact h
   |exact⟨hd,(show CallsIn Fence.wide _ P _ _ _ _ from callsIn_wide.2 h)⟩
   |exact⟨hd,fun c cs _=>let⟨v,w',r,s⟩:=h c cs;⟨v,w',r,(show StepsIn (Machine.fenced P Fence.wide) P _ _ from stepsIn_wide.2 s)⟩⟩
 |halt x w'=>cases x<;>simp only[Oper.upon]at h<;>simp only[Oper.uponIn]<;>exact h
structure D7 (P:Program)(call:f9):Prop where
 run:∀g args hp v hp',call.run g args hp=some (v,hp')-> ∀B w0 σ w args',VRL σ args args'->HR B w0 σ hp w->
  Calls P g args'.toArray w (fun e w'=>∃σ' u,e= .returned u/\Sg.gr hp.nx hp'.nx σ σ'/\VR σ' v u/\HR B w0 σ' hp' w')
 ov:∀g t,call.ov g=some t->ah9 P g t
 round:∀i args hp v hp',call.round i args hp=some (v,hp')-> ∀B w0 σ w args' p,σ i=some p->VRL σ args args'->HR B w0 σ hp w->
  ∃r,w.heap[p.blk]? =some (.loop r)/\args'.length=r.params.size/\
   RoundIn Fence.wide 0 P p.blk r.fn ((r.params.zip args'.toArray).foldl (fun tmps (t,a)=>tmps.setIfInBounds t a) r.tmps) r.assign r.body w (fun e w'=>∃σ' u,e= .returned u/\Sg.gr hp.nx hp'.nx σ σ'/\VR σ' v u/\HR B w0 σ' hp' w')
section
variable {P :Program}{B:BS}{w0:World}{σ:Sg}{hp:Hp}{w:World}
theorem MOK.of_pure {v u:Value}{s:Sem Value}(h1:VR σ v u)(h2:∀w,s.run P w= .ok u w)(hw:HR B w0 σ hp w):MOK hp B w0 σ v hp (s.run P w):=
 ⟨σ,u,w,h2 w,Sg.gr_refl _ σ,h1,hw⟩
theorem aB7 {b : Builtin} {ats : Array TypeId} {args : List Value} {args' : List Value} {v : Value} {hp' : Hp} (h : z9 P hp b ats.toList args = some (v, hp'))
  (ha:VRL σ args args') (hw:HR B w0 σ hp w) (ty:TypeId) (cs:Array Bool):
  ∃σ' u w',(builtin b ats ty cs args'.toArray).run P w= .ok (.value u) w'/\Sg.gr hp.nx hp'.nx σ σ'/\VR σ' v u/\HR B w0 σ' hp' w':=by
 have fin : ∀ {s : Sem Value}, MOK hp B w0 σ v hp' (s.run P w) → builtin b ats ty cs args'.toArray = (do pure (.value (← s)) : Sem Next) →
   ∃σ' u w',(builtin b ats ty cs args'.toArray).run P w= .ok (.value u) w'/\Sg.gr hp.nx hp'.nx σ σ'/\VR σ' v u/\HR B w0 σ' hp' w':=by
  intro s hm he;obtain⟨σ',u,w',h1,h2,h3,h4⟩:=hm;refine⟨σ',u,w',?_,h2,h3,h4⟩;rw[he];simp only[bI3,h1,bH9,bI8]
 unfold z9 at h;split at h
 ·rename_i t u s x hat
  obtain⟨s',r,rfl,hs,hr⟩:=ha.uncons;obtain⟨x',r,rfl,hx,hr⟩:=hr.uncons;rw[hr.unnil]at*;have:ats= #[t,u]:=by apply bN5;exact hat
  subst this;split at h
  ·rename_i r hr0
   simp only[bF4]at h;subst h;exact fin (aF3 hr0 hs hx hw ty) rfl
  ·exact fin (aB6 h hs hx hw ty) rfl
 ·rename_i t x hat
  obtain⟨x',r,rfl,hx,hr⟩:=ha.uncons;rw[hr.unnil]at*;have:ats= #[t]:=by apply bN5;exact hat
  subst this;exact fin (aN5 h hx hw ty) rfl
 ·rename_i t u d x hat
  obtain⟨s',r,rfl,hs,hr⟩:=ha.uncons;obtain⟨x',r,rfl,hx,hr⟩:=hr.uncons;rw[hr.unnil]at*;have:ats= #[t,u]:=by apply bN5;exact hat
  subst this;exact fin (aW7 h hs hx hw ty) rfl
 ·rename_i t x hat
  obtain⟨x',r,rfl,hx,hr⟩:=ha.uncons;rw[hr.unnil]at*;obtain⟨hh0,rfl⟩:=i5 h;have:ats= #[t]:=by apply bN5;exact hat
  subst this;obtain⟨h1,h2⟩:=aW9 (P:=P) hh0 hx hw ty #[t] rfl;exact fin (s:=Builtin.len_ #[t] ty #[x']) ⟨σ,_,w,h2,Sg.gr_refl _ σ,h1,hw⟩ rfl
 ·rename_i t x hat
  obtain⟨x',r,rfl,hx,hr⟩:=ha.uncons;rw[hr.unnil]at*;obtain⟨hh0,rfl⟩:=i5 h;have:ats= #[t]:=by apply bN5;exact hat
  subst this;obtain⟨u0,h1,h2⟩:=bd6 (P:=P) hh0 hx ty #[t] rfl;exact fin (MOK.of_pure h1 h2 hw) rfl
 ·rename_i x xs
  obtain⟨x',r,rfl,hx,hr⟩:=ha.uncons;obtain⟨hh0,rfl⟩:=i5 h;obtain⟨h1,h2⟩:=aC8 (P:=P) hh0 hx hr;exact fin (s:=Builtin.min_ ats ty (x'::r).toArray) (MOK.of_pure h1 h2 hw) rfl
 ·rename_i x xs
  obtain⟨x',r,rfl,hx,hr⟩:=ha.uncons;obtain⟨hh0,rfl⟩:=i5 h;obtain⟨h1,h2⟩:=aC7 (P:=P) hh0 hx hr;exact fin (s:=Builtin.max_ ats ty (x'::r).toArray) (MOK.of_pure h1 h2 hw) rfl
 ·cases h
theorem Y9 {g : FuncId} {fn : Func} {args : Array Value} (hf : P.funcs[g]? = some fn) (ho : ao8 fn = true) (w : World) :
  (callFunc g args).run P w= .ok (.enter g args) w:=by
 simp only[ao8,bF5,bK0]at ho;have hb:fn.body.isNone=false:=by cases h:fn.body<;>simp_all
 simp only[callFunc,bI3,bP7,bH9,hf,ho.2,hb,bM6,bO5,bI8]
set_option maxHeartbeats 2000000 in
theorem aJ4 {tm : T Value} {o : Oper} {n : Nw} (h : xnw P tm o.op = some n) {a : Act} (ht : ∀ x ∈ o.op.operands, ∀ v, d6 tm x = some v → VR σ v (a.eval x)) :
  ∃s:Sem Value,execOp a.eval o=(do pure (.value (<-s)):Sem Next)/\ak4 P σ n s:=by
 obtain⟨dst,op,type,pos,after,guard⟩:=o;cases op
 case alloc e=>
  simp only[xnw]at h;cases hb:Nat.beq e rgT with
  |true=>rw[hb]at h;cases h
  |false=>rw[hb]at h;exact⟨_,rfl,aF2 h⟩
 case box e x=>
  simp only[xnw]at h;cases hb:Nat.beq e rgT with
  |true=>rw[hb]at h;cases h
  |false=>
  rw[hb,bH2]at h;split at h
  ·rename_i v hv
   simp only[bF4]at h;subst h;exact⟨_,rfl,aW4 (ht x (by simp[Op.operands]) _ hv)⟩
  ·cases h
 case buildSlice t len parts=>
  simp only[xnw]at h;split at h
  ·rename_i ps hps
   have hp1:=aj9 (σ:=σ) (a:=a) (fun p hp=>ht p.2 (by simp only[Op.operands,List.mem_toArray];exact bN7.2 ⟨p,hp,rfl⟩)) hps
   exact⟨_,rfl,bd5 (ys:=parts.map fun(i,x)=>(i,a.eval x)) h (by simpa using hp1)⟩
  ·cases h
 case makeSlice t l c=>
  simp only[xnw]at h;split at h
  ·rename_i lv hl
   split at h
   ·rename_i cv hc
    exact⟨_,rfl,bd9 h (ht l (by simp[Op.operands]) _ hl) (ht c (by simp[Op.operands]) _ hc)⟩
   ·cases h
  ·cases h
 case makeMap t r=>
  simp only[xnw]at h;split at h
  ·rename_i rv hr
   split at h
   ·rename_i kt et hu
    have ho:=an6 (σ:=σ) (a:=a) (fun y hy=>ht y (by subst hy;simp[Op.operands])) hr
    refine⟨_,rfl,aX0 h ?_ (by rw[hu];exact trivial)⟩
    unfold OVR at ho;cases rv<;>cases r<;>simp_all
   ·cases h
  ·cases h
 case range t x=>
  simp only[xnw]at h;split at h
  ·rename_i xv hx
   exact⟨_,rfl,aF5 h (ht x (by simp[Op.operands]) _ hx)⟩
  ·cases h
 all_goals (simp only[xnw,reduceCtorEq]at h)
set_option maxHeartbeats 2000000 in
theorem W7 {call : f9} (hcall : D7 P call) {tm : T Value} {o : Oper} {v : Value} {hp' : Hp}
  (h:xop P call tm hp o.op=some (v,hp')) {a:Act} (ht:∀x∈o.op.operands,∀v,d6 tm x=some v->VR σ v (a.eval x)) (hw:HR B w0 σ hp w) (next:Act->World->Prop) (Q:Exit->Act->World->Prop)
  (hn:∀σ' u w',Sg.gr hp.nx hp'.nx σ σ'->VR σ' v u->HR B w0 σ' hp' w'->next (a.put o.dst u) w') (r:Option Nat):o.wpIn (RF r) 0 P a w next Q:=by
 have val:∀ {s:Sem Value},MOK hp B w0 σ v hp' (s.run P w)->execOp a.eval o=(do pure (.value (<-s)):Sem Next)->o.wp P a w next Q:=by
  intro s hm he;obtain⟨σ',u,w',h1,h2,h3,h4⟩:=hm;unfold Oper.wp;rw[he];simp only[bI3,h1,bH9,bI8,bP4];exact hn σ' u w' h2 h3 h4
 have pur : ∀ {s : Sem Value} {x : Option Value}, f8 hp x = some (v, hp') → (x = some v → ∃ u, VR σ v u ∧ ∀ w, s.run P w = .ok u w) →
   execOp a.eval o=(do pure (.value (<-s)):Sem Next)->o.wp P a w next Q:=by
  intro s x hx hs he;obtain⟨hx0,rfl⟩:=i5 hx;obtain⟨u,h1,h2⟩:=hs hx0;exact val (MOK.of_pure h1 h2 hw) he
 have neu:∀(q:Op),M0 hp (xnw P tm q)=some (v,hp')->o.op=q->o.wp P a w next Q:=by
  intro q hx hq;cases hn2:xnw P tm q with
  |none=>rw[hn2]at hx;cases hx
  |some n=>
   rw[hn2]at hx;simp only[M0,bF4]at hx;obtain⟨s,h1,h2⟩:=aJ4 (P:=P) (σ:=σ) (o:=o) (by rw[hq];exact hn2) ht
   have hm:=h2.mok hw;rw[hx]at hm;exact val hm h1
 obtain⟨dst,op,type,pos,after,guard⟩:=o;cases op
 case move x=>
  refine f7 (fun _ h=>by cases h) ?_
  simp only[c8,j8]at h;obtain⟨hx0,rfl⟩:=i5 h;exact hn σ _ w (Sg.gr_refl _ σ) (ht _ (by simp[Op.operands]) _ hx0) hw
 case assign x=>
  refine f7 (fun _ h=>by cases h) ?_
  simp only[c8,j8]at h;obtain⟨hx0,rfl⟩:=i5 h;exact hn σ _ w (Sg.gr_refl _ σ) (ht _ (by simp[Op.operands]) _ hx0) hw
 case pick c x y=>
  refine f7 (fun _ h=>by cases h) ?_
  simp only[c8,j8]at h;split at h
  ·rename_i t hc
   have hcv:=ht _ (by simp[Op.operands]) _ hc
   generalize hce:a.eval c=cv at hcv;cases hcv;cases t with
   |true=>
    rw[bH1]at h;obtain⟨hx0,rfl⟩:=i5 h;unfold Oper.wp;simp only[execOp,hce,asBool,bI3,bI8,bH9,bO6,bP4];exact hn σ _ w (Sg.gr_refl _ σ) (ht _ (by simp[Op.operands]) _ hx0) hw
   |false=>
    rw[bH2]at h;obtain⟨hx0,rfl⟩:=i5 h;unfold Oper.wp;simp only[execOp,hce,asBool,bI3,bI8,bH9,bM6,bO5,bP4];exact hn σ _ w (Sg.gr_refl _ σ) (ht _ (by simp[Op.operands]) _ hx0) hw
  ·cases h
 case alloc e=>
  refine f7 (fun _ h=>by cases h) ?_
  simp only[c8,j8,ay9]at h;cases hb:Nat.beq e rgT with
  |false=>rw[hb]at h;exact neu (.alloc e) h rfl
  |true=>
   rw[hb,bH1]at h;have:=bF9 hb;subst this;split at h
   ·rename_i z hz
    obtain⟨hc,hr⟩:=D6 hz;obtain⟨σ',h1,h2,h3⟩:=at4 (us:=z.cells) h (by simpa using(M4 σ hc).cells) hw
    exact val (s:=Instr.alloc rgT true (.tuple #[])) ⟨σ',_,_,by simp[Instr.alloc,hr,newVar,newRow],h1,h2,h3⟩ rfl
   ·cases h
 case box e x=>
  refine f7 (fun _ h=>by cases h) ?_
  simp only[c8,j8,bu0]at h;cases hb:Nat.beq e rgT with
  |false=>rw[hb]at h;exact neu (.box e x) h rfl
  |true=>
   rw[hb,bH1]at h;have:=bF9 hb;subst this;split at h
   ·rename_i xv hx
    obtain⟨σ',h1,h2,h3⟩:=at4 (us:=(a.eval x).cells) h (ht x (by simp[Op.operands]) _ hx).cells hw
    exact val (s:=Instr.box rgT (a.eval x)) ⟨σ',_,_,by simp[Instr.box,newVar,newRow],h1,h2,h3⟩ rfl
   ·cases h
 case makeMap t r=>exact f7 (fun _ h=>by cases h) (neu (.makeMap t r) h rfl)
 case range t x=>exact f7 (fun _ h=>by cases h) (neu (.range t x) h rfl)
 case next it isS=>
  refine f7 (fun _ h=>by cases h) ?_
  simp only[c8,j8]at h;split at h
  ·rename_i xv hx
   exact val (aX1 h (ht _ (by simp[Op.operands]) _ hx) hw type) rfl
  ·cases h
 case lookup t x k ok=>
  refine f7 (fun _ h=>by cases h) ?_
  simp only[c8,j8]at h;split at h
  ·rename_i xv hx
   split at h
   ·rename_i kv hk
    obtain⟨hh0,rfl⟩:=i5 h;obtain⟨u,h1,h2⟩:=aF4 hh0 (ht _ (by simp[Op.operands]) _ hx) (ht _ (by simp[Op.operands]) _ hk) hw
    exact val ⟨σ,u,w,h2,Sg.gr_refl _ σ,h1,hw⟩ rfl
   ·cases h
  ·cases h
 case mapUpdate t m k x=>
  refine f7 (fun _ h=>by cases h) ?_
  simp only[c8,j8]at h;split at h
  ·rename_i mv hm
   split at h
   ·rename_i kv hk
    split at h
    ·rename_i xv hx
     split at h
     ·rename_i hp2 hst
      simp only[bF4,bF6]at h;obtain⟨rfl,rfl⟩:=h;obtain⟨w',h1,h2,h3⟩:=ah6 hst (ht _ (by simp[Op.operands]) _ hm) (ht _ (by simp[Op.operands]) _ hk) (ht _ (by simp[Op.operands]) _ hx) hw
      unfold Oper.wp;simp only[execOp,bI3,h1,bH9,bI8,Oper.upon_skip];exact hn σ undef w' (by rw[h3];exact Sg.gr_refl _ σ) (VR.undef σ) h2
     ·cases h
    ·cases h
   ·cases h
  ·cases h
 case mapEntry t m k=>
  refine f7 (fun _ h=>by cases h) ?_
  simp only[c8,j8]at h;split at h
  ·rename_i mv hm
   split at h
   ·rename_i kv hk
    exact val (au8 h (ht _ (by simp[Op.operands]) _ hm) (ht _ (by simp[Op.operands]) _ hk) hw) rfl
   ·cases h
  ·cases h
 case entryStore t m s x=>
  refine f7 (fun _ h=>by cases h) ?_
  simp only[c8,j8]at h;split at h
  ·rename_i mv hm
   split at h
   ·rename_i sv hsv
    split at h
    ·rename_i xv hx
     split at h
     ·rename_i hp2 hst
      simp only[bF4,bF6]at h;obtain⟨rfl,rfl⟩:=h;obtain⟨w',h1,h2,h3⟩:=an0 (P:=P) (t:=t) hst (ht _ (by simp[Op.operands]) _ hm) (ht _ (by simp[Op.operands]) _ hsv) (ht _ (by simp[Op.operands]) _ hx) hw
      unfold Oper.wp;simp only[execOp,bI3,h1,bH9,bI8,Oper.upon_skip];exact hn σ undef w' (by rw[h3];exact Sg.gr_refl _ σ) (VR.undef σ) h2
     ·cases h
    ·cases h
   ·cases h
  ·cases h
 case insert t m k x=>
  refine f7 (fun _ h=>by cases h) ?_
  simp only[c8,j8]at h;split at h
  ·rename_i mv hm
   split at h
   ·rename_i kv hk
    split at h
    ·rename_i xv hx
     split at h
     ·rename_i hp2 hst
      simp only[bF4,bF6]at h;obtain⟨rfl,rfl⟩:=h;obtain⟨w',h1,h2,h3⟩:=ah6 hst (ht _ (by simp[Op.operands]) _ hm) (ht _ (by simp[Op.operands]) _ hk) (ht _ (by simp[Op.operands]) _ hx) hw
      unfold Oper.wp;simp only[execOp,bI3,h1,bH9,bI8,Oper.upon_skip];exact hn σ undef w' (by rw[h3];exact Sg.gr_refl _ σ) (VR.undef σ) h2
     ·cases h
    ·cases h
   ·cases h
  ·cases h
 case build t parts=>
  refine f7 (fun _ h=>by cases h) ?_
  simp only[c8,j8]at h;split at h
  ·rename_i ps hps
   have hp1:=aj9 (fun p hp=>ht p.2 (by simp only[Op.operands,List.mem_toArray];exact bN7.2 ⟨p,hp,rfl⟩)) hps
   exact pur h (fun hx=>aN4 (ys:=parts.map fun(i,x)=>(i,a.eval x)) hx (by simpa using hp1)) rfl
  ·cases h
 case buildSlice t len parts=>exact f7 (fun _ h=>by cases h) (neu (.buildSlice t len parts) h rfl)
 case load t x=>
  refine f7 (fun _ h=>by cases h) ?_
  simp only[c8,j8]at h;split at h
  ·rename_i xv hx
   obtain⟨hh0,rfl⟩:=i5 h;obtain⟨u,h1,h2⟩:=at3 hh0 (ht _ (by simp[Op.operands]) _ hx) hw
   exact val ⟨σ,u,w,h2,Sg.gr_refl _ σ,h1,hw⟩ rfl
  ·cases h
 case store t x y=>
  refine f7 (fun _ h=>by cases h) ?_
  simp only[c8,j8]at h;split at h
  ·rename_i xv hx
   split at h
   ·rename_i yv hy
    split at h
    ·rename_i hp2 hst
     simp only[bF4,bF6]at h;obtain⟨rfl,rfl⟩:=h;obtain⟨w',h1,h2,h3⟩:=aO9 hst (ht _ (by simp[Op.operands]) _ hx) (ht _ (by simp[Op.operands]) _ hy) hw
     unfold Oper.wp;simp only[execOp,bI3,h1,bH9,bI8,Oper.upon_skip];exact hn σ undef w' (by rw[h3];exact Sg.gr_refl _ σ) (VR.undef σ) h2
    ·cases h
   ·cases h
  ·cases h
 case nilCheck x=>
  refine f7 (fun _ h=>by cases h) ?_
  simp only[c8,j8]at h;split at h
  ·rename_i p hx
   simp only[bF4,bF6]at h;obtain⟨rfl,rfl⟩:=h;have hv:=ht _ (by simp[Op.operands]) _ hx
   generalize hxe:a.eval x=xv at hv;cases hv with
   |ptr i o q hq=>
   unfold Oper.wp;simp only[execOp,hxe,bI8,bP4];exact hn σ _ w (Sg.gr_refl _ σ) (.ptr i o q hq) hw
   |rptr i o q hq=>
   unfold Oper.wp;simp only[execOp,hxe,bI8,bP4];exact hn σ _ w (Sg.gr_refl _ σ) (.rptr i o q hq) hw
  ·rename_i f fa fb hx
   simp only[bF4,bF6]at h;obtain⟨rfl,rfl⟩:=h;have hv:=ht _ (by simp[Op.operands]) _ hx
   generalize hxe:a.eval x=xv at hv;cases hv with
   |func _ _ ys _ ds h1 h2 h3 h4=>
   unfold Oper.wp;simp only[execOp,hxe,bI8,bP4];exact hn σ _ w (Sg.gr_refl _ σ) (.func _ _ ys _ ds h1 h2 h3 h4) hw
  ·cases h
 case binOp op t x y yt=>
  refine f7 (fun _ h=>by cases h) ?_
  simp only[c8,j8]at h;split at h
  ·rename_i xv hx
   split at h
   ·rename_i yv hy
    obtain⟨hh0,rfl⟩:=i5 h;obtain⟨u0,h1,h2⟩:=aV9 (P:=P) hh0 (ht _ (by simp[Op.operands]) _ hx) (ht _ (by simp[Op.operands]) _ hy) x y
    unfold Oper.wp;simp only[execOp,bI3,(h2 w).1,(h2 w).2,bH9,bI8,bP4];exact hn σ _ w (Sg.gr_refl _ σ) h1 hw
   ·cases h
  ·cases h
 case unOp op t x=>
  refine f7 (fun _ h=>by cases h) ?_
  simp only[c8,j8]at h;split at h
  ·rename_i xv hx
   exact pur h (fun hh=>⟨_,bp7 hh (ht _ (by simp[Op.operands]) _ hx)⟩) rfl
  ·cases h
 case convert s d x=>
  refine f7 (fun _ h=>by cases h) ?_
  simp only[c8,j8]at h;split at h
  ·rename_i xv hx
   exact pur h (fun hh=>aW6 hh (ht _ (by simp[Op.operands]) _ hx)) rfl
  ·cases h
 case makeInterface t x=>
  refine f7 (fun _ h=>by cases h) ?_
  simp only[c8,j8]at h;split at h
  ·rename_i xv hx
   exact pur h (fun hh=>aN8 hh (ht _ (by simp[Op.operands]) _ hx)) rfl
  ·cases h
 case makeFunc fn first captured=>
  refine f7 (fun _ h=>by cases h) ?_
  simp only[c8,j8]at h;split at h
  ·rename_i fs hfs
   split at h
   ·rename_i cs hcs
    simp only[bF4,bF6]at h;obtain⟨rfl,rfl⟩:=h;have v1:=an1 (fun y hy=>ht y (by simp only[Op.operands,Array.mem_append];exact .inl (by simpa using hy))) hfs
    have v2:=an1 (fun y hy=>ht y (by simp only[Op.operands,Array.mem_append];exact .inr (by simpa using hy))) hcs
    refine hn σ (.func fn (first.map a.eval) (captured.map a.eval)) w (Sg.gr_refl _ σ) (.func _ _ _ _ _ ?_ ?_ ?_ ?_) hw
    ·have:=v1.1;simpa using this
    ·intro i x y h1 h2;exact v1.2 i x y (by simpa using h1) (by simpa using h2)
    ·have:=v2.1;simpa using this
    ·intro i x y h1 h2;exact v2.2 i x y (by simpa using h1) (by simpa using h2)
   ·cases h
  ·cases h
 case makeSlice t l c=>exact f7 (fun _ h=>by cases h) (neu (.makeSlice t l c) h rfl)
 case slice t x lo hi mx=>
  refine f7 (fun _ h=>by cases h) ?_
  simp only[c8,j8]at h;split at h
  ·rename_i xv hx
   split at h
   ·rename_i l hl
    split at h
    ·rename_i hh hhi
     split at h
     ·rename_i m hm
      exact val (aO4 h (ht _ (by simp[Op.operands]) _ hx) (an6 (fun y hy=>ht y (by subst hy;simp[Op.operands])) hl) (an6 (fun y hy=>ht y (by subst hy;simp[Op.operands])) hhi) (an6 (fun y hy=>ht y (by subst hy;simp[Op.operands])) hm) hw) rfl
     ·cases h
    ·cases h
   ·cases h
  ·cases h
 case fieldAddr t x f=>
  refine f7 (fun _ h=>by cases h) ?_
  simp only[c8,j8]at h;split at h
  ·rename_i xv hx
   exact pur h (fun hh=>aq0 hh (ht _ (by simp[Op.operands]) _ hx)) rfl
  ·cases h
 case field t x f=>
  refine f7 (fun _ h=>by cases h) ?_
  simp only[c8,j8]at h;split at h
  ·rename_i xv hx
   exact pur h (fun hh=>aN7 hh (ht _ (by simp[Op.operands]) _ hx)) rfl
  ·cases h
 case indexAddr t x i=>
  refine f7 (fun _ h=>by cases h) ?_
  simp only[c8,j8]at h;split at h
  ·rename_i xv hx
   split at h
   ·rename_i iv hi
    exact pur h (fun hh=>aq1 hh (ht _ (by simp[Op.operands]) _ hx) (ht _ (by simp[Op.operands]) _ hi)) rfl
   ·cases h
  ·cases h
 case index t x i=>
  refine f7 (fun _ h=>by cases h) ?_
  simp only[c8,j8]at h;split at h
  ·rename_i xv hx
   split at h
   ·rename_i iv hi
    exact pur h (fun hh=>aN9 hh (ht _ (by simp[Op.operands]) _ hx) (ht _ (by simp[Op.operands]) _ hi)) rfl
   ·cases h
  ·cases h
 case extract x i=>
  refine f7 (fun _ h=>by cases h) ?_
  simp only[c8,j8]at h;split at h
  ·rename_i xv hx
   exact pur h (fun hh=>aC1 hh (ht _ (by simp[Op.operands]) _ hx)) rfl
  ·cases h
 case call c=>
  simp only[c8,j8]at h;obtain⟨callee,cargs,cats⟩:=c;split at h
  ·rename_i args hargs
   have hav:=an1 (fun y hy=>ht y (by simp only[Op.operands,Call.operands,Array.mem_append];exact .inr (by simpa using hy))) hargs
   cases callee with
   |invoke r m=>simp only[reduceCtorEq]at h
   |builtin b=>
    refine f7 (fun _ h=>by cases h) ?_
    simp only at h;obtain⟨σ',u,w',h1,h2,h3,h4⟩:=aB7 (ty:=type) (cs:=cargs.map fun| .const _=>true|_=>false) h hav hw
    unfold Oper.wp;have hmap:(cargs.toList.map a.eval).toArray=cargs.map a.eval:=by apply bN5;simp
    rw[hmap]at h1;have hrun:(execOp a.eval ⟨dst,.call ⟨.builtin b,cargs,cats⟩,type,pos,after,guard⟩).run P w= .ok (.value u) w':=by
     simp only[execOp,resolve,invoke,bI3,bI8,bH9];exact h1
    rw[hrun];exact hn σ' u w' h2 h3 h4
   |value f=>
    simp only at h;split at h
    ·rename_i fv hf
     have hfv:=ht _ (by simp[Op.operands,Call.operands]) _ hf
     unfold aB8 at h;split at h
     ·rename_i g first captured
      refine f7 (fun _ h=>by cases h) ?_
      generalize hfe:a.eval f=fe at hfv;cases hfv with
      |func _ _ ys _ ds q1 q2 q3 q4=>
      split at h
      ·rename_i fn hfn
       have vf:VRL σ first.toList ys.toList:=⟨by simpa using q1,fun i x y h1 h2=>q2 i x y (by simpa using h1) (by simpa using h2)⟩
       have vc:VRL σ captured.toList ds.toList:=⟨by simpa using q3,fun i x y h1 h2=>q4 i x y (by simpa using h1) (by simpa using h2)⟩
       have hmap:(ys.toList++cargs.toList.map a.eval++ds.toList).toArray=ys++cargs.map a.eval++ds:=by apply bN5;simp
       have hrun0:(execOp a.eval ⟨dst,.call ⟨.value f,cargs,cats⟩,type,pos,after,guard⟩).run P w=(callFunc g (ys++cargs.map a.eval++ds)).run P w:=by
        simp only[execOp,resolve,hfe,Deferred.ofValue,invoke,bI3,bI8,bH9]
       cases ho:ao8 fn with
       |false=>
        rw[ho,bH2]at h;split at h
        ·rename_i t0 ht0
         have hne:t0≠ah2:=fun e=>by rw[e,j9 rfl]at h;cases h
         rw[u6 hne,bH2]at h;obtain⟨rfl,u,h1,h2⟩:=aX5 ((hcall.ov g t0 ht0).resolve_left fun e=>hne e.1).2 h ((vf.append hav).append vc) hw
         rw[hmap]at h2;unfold Oper.wp;rw[hrun0,h2,bP4];exact hn σ u w (Sg.gr_refl _ σ) h1 hw
        ·cases h
       |true=>
        rw[ho,bH1]at h;have hc:=hcall.run g _ hp v hp' h B w0 σ w _ ((vf.append hav).append vc) hw;rw[hmap]at hc;unfold Oper.wp;rw[hrun0,Y9 hfn ho w,Oper.upon_enter];refine hc.mono fun e w' he=>?_
        obtain⟨σ',u,rfl,h2,h3,h4⟩:=he;exact hn σ' u w' h2 h3 h4
      ·cases h
     ·rename_i i
      generalize hfe:a.eval f=fe at hfv;cases hfv with
      |yield _ p hp0=>
      obtain⟨rec,k1,k2,k3⟩:=hcall.round i args hp v hp' h B w0 σ w _ p hp0 hav hw;have hmap:(cargs.toList.map a.eval).toArray=cargs.map a.eval:=by apply bN5;simp
      have hrun:(execOp a.eval ⟨dst,.call ⟨.value f,cargs,cats⟩,type,pos,after,guard⟩).run P w=(Instr.yield p.blk (cargs.map a.eval)).run P w:=by
       simp only[execOp,resolve,hfe,Deferred.ofValue,invoke,bI3,bI8,bH9]
       congr 2
       simp
      refine⟨fun _ _=>trivial,?_⟩
      rw[Oper.semAt_eq _ _ _ (fun _ h=>by cases h),hrun,run_yield k1 (by rw[<-k2];simp),Oper.uponIn_round]
      refine⟨(fun h=>by cases h),?_⟩
      rw[hmap]at k3;refine(show RoundIn (RF r) _ P _ _ _ _ _ _ _ from k3).mono fun e w' he=>?_
      obtain⟨σ',u,rfl,h2,h3,h4⟩:=he;exact hn σ' u w' h2 h3 h4
     ·cases h
    ·cases h
  ·cases h
 all_goals (simp only[c8,j8,reduceCtorEq]at h)
end
end Go.Xe
end PartXm10
noncomputable section PartXm11
namespace Go.Xe
open Go.RowKit
def P1 (ops:List Oper)(tm:T Value)(j:Nat):Option Bool:=
 match ops[j]? with
 |some o=>match o.dst with
  |some d=>match tm.get d with
   |some (.bool b)=>some b
   |_=>none
  |none=>none
 |none=>none
def q9 (ops:List Oper)(tm:T Value)(o:Oper):Bool:=
 match o.guard with
 |none=>true
 |some (j,want)=>match P1 ops tm j with
  |some b=>b==want
  |none=>false
theorem aD6 {σ : Sg} {nt : Nat} {tm : T Value} {tmps : Array Value} (h : TR σ nt tm tmps) (ops : Array Oper) (o : Oper) :
  Region.wanted o (yielded ops tmps)=q9 ops.toList tm o:=by
 unfold Region.wanted q9;cases o.guard with
 |none=>rfl
 |some gw=>
  obtain⟨j,want⟩:=gw;simp only;have hy:yielded ops tmps j=P1 ops.toList tm j:=by
   unfold yielded P1;rw[Array.getElem?_toList];cases hj:ops[j]? with
   |none=>rfl
   |some p=>
    simp only[Option.bind_some];cases hd:p.dst with
    |none=>rfl
    |some d=>
     simp only[Option.bind_some];have:=h.at_ d
     by_cases hlt:d<tmps.size
     ·have e:tmps[d]? =some tmps[d]:=by simp[hlt]
      have e2:tmps.getD d undef=tmps[d]:=by simp[Array.getD,hlt]
      rw[e2]at this;rw[e];cases hg:tm.get d with
      |none=>
       rw[hg,Option.getD_none]at this;generalize tmps[d]=x at this;cases this;rfl
      |some v=>
       rw[hg,bJ6]at this;generalize tmps[d]=x at this;cases this<;>rfl
     ·have e:tmps[d]? =none:=bQ2 (bN2 hlt)
      have e2:tmps.getD d undef=undef:=by simp[Array.getD,hlt]
      rw[e2]at this;rw[e];cases hg:tm.get d with
      |none=>rfl
      |some v=>
       rw[hg,bJ6]at this;unfold undef at this;cases this;rfl
  rw[hy];cases P1 ops.toList tm j with
  |none=>rfl
  |some b=>cases b<;>cases want<;>rfl
def z6 (tm:T Value)(dst:Option Tmp)(v:Value):T Value:=
 match dst with
 |some d=>tm.set d (some v)
 |none=>tm
def B6 (nt:Nat)(dst:Option Tmp):Bool:=
 match dst with
 |some d=>Nat.blt d nt
 |none=>true
theorem TR.putO {σ : Sg} {nt : Nat} {tm : T Value} {a : Act} (h : TR σ nt tm a.tmps) {dst : Option Tmp} (hd : B6 nt dst = true) {v u : Value} (hv : VR σ v u) :
  TR σ nt (z6 tm dst v) (a.put dst u).tmps:=by
 cases dst with
 |none=>exact h
 |some d=>exact h.put (bF8 hd) hv
def by1 (ih:T Value->Hp->Option (T Value×Hp))(tm:T Value)(dst:Option Tmp)(r:Option (Value×Hp)):Option (T Value×Hp):=
 Option.rec (motive:=fun _=>Option (T Value×Hp)) none (fun p=>Prod.rec (motive:=fun _=>Option (T Value×Hp)) (fun v hp=>(z6 tm dst v).force fun tm'=>ih tm' hp) p) r
def xone (P:Program)(call:f9)(nt:Nat)(all:List Oper)(o:Oper)(ih:T Value->Hp->Option (T Value×Hp))(tm:T Value)(hp:Hp):Option (T Value×Hp):=
 bif B6 nt o.dst then
  bif q9 all tm o then by1 ih tm o.dst (xop P call tm hp o.op)
  else(z6 tm o.dst undef).force fun tm'=>ih tm' hp
 else none
def aD1 (P:Program)(call:f9)(nt:Nat)(all:List Oper)(l:List Oper):T Value->Hp->Option (T Value×Hp):=
 List.rec (motive:=fun _=>T Value->Hp->Option (T Value×Hp)) (fun tm hp=>some (tm,hp)) (fun o _ ih tm hp=>xone P call nt all o ih tm hp) l
theorem aD2 {P:Program}{call:f9}{nt:Nat}{all:List Oper}{tm:T Value}{hp:Hp}:aD1 P call nt all [] tm hp=some (tm,hp):=rfl
theorem P6 {P : Program} {call : f9} {nt : Nat} {all rest : List Oper} {o : Oper} {tm : T Value} {hp : Hp} :
  aD1 P call nt all (o::rest) tm hp=bif B6 nt o.dst then
   bif q9 all tm o then
    match xop P call tm hp o.op with
    |some (v,hp')=>aD1 P call nt all rest (z6 tm o.dst v) hp'
    |none=>none
   else aD1 P call nt all rest (z6 tm o.dst undef) hp
  else none:=by
 show xone P call nt all o (aD1 P call nt all rest) tm hp=_;unfold xone;cases xop P call tm hp o.op with
 |none=>simp only[T.force_eq,by1]
 |some r=>obtain⟨v,hp'⟩:=r;simp only[T.force_eq,by1]
def ak5 (n:Nat)(B:BS)(w0:World)(σ:Sg)(nt:Nat)(e:Exit)(tm:T Value)(hp:Hp)(D:List Deferred):Exit->Act->World->Prop:=
 fun e' a' w'=>e'=e/\a'.defers=D/\ ∃σ',Sg.gr n hp.nx σ σ'/\TR σ' nt tm a'.tmps/\HR B w0 σ' hp w'
theorem ak5.le {B : BS} {w0 : World} {σ σ' : Sg} {n n1 : Nat} (h : Sg.gr n n1 σ σ') {nt : Nat} {e : Exit} {tm : T Value} {hp : Hp} {D : List Deferred} {e' : Exit} {a' : Act} {w' : World} (hp' : ak5 n1 B w0 σ' nt e tm hp D e' a' w') :
  ak5 n B w0 σ nt e tm hp D e' a' w':=by
 obtain⟨h1,h2,σ2,h3,h4,h5⟩:=hp';exact⟨h1,h2,σ2,Sg.gr_trans h h3,h4,h5⟩
theorem N4 {P:Program}{r:Option Nat}{ops:Array Oper}{Q Q':Exit->Act->World->Prop}(hq:∀e a w,Q e a w->Q' e a w):∀(l:List Nat) {a:Act} {w:World},wpOpsIn (RF r) 0 P ops Q l a w->wpOpsIn (RF r) 0 P ops Q' l a w:=by
 have hlet:LetsOut Q->LetsOut Q':=fun⟨a,w,h⟩=>⟨a,w,hq _ _ _ h⟩
 intro l
 induction l with
 |nil=>intro a w h;exact hq _ _ _ h
 |cons i rest ih=>
  intro a w h;simp only[wpOpsIn]at h⊢;cases ho:ops[i]? with
  |none=>simp only[ho]at h;exact ih h
  |some o=>
   simp only[ho]at h;simp only;split
   ·rename_i hw
    simp only[hw,bO6]at h;unfold Oper.wpIn at h⊢;refine⟨h.1,?_⟩
    replace h:=h.2
    generalize (o.semAt (RF r).round a.eval).run P w=x at h⊢;cases x with
    |ok n w'=>
     cases n<;>simp only[Oper.uponIn]at h⊢ <;>first
      |exact ih h
      | (refine⟨h.1,CallsIn.mono h.2 fun e w'' he=>?_⟩;cases e<;>first|exact ih he|exact hq _ _ _ he|exact hlet he)
      |exact⟨h.1,RowsIn.mono h.2 fun v w'' he=>ih he⟩
      | (refine⟨h.1,RoundIn.mono h.2 fun e w'' he=>?_⟩;cases e<;>first|exact ih he|exact hq _ _ _ he|exact hlet he)
    |halt x w'=>cases x<;>simp only[Oper.uponIn]at h⊢ <;>exact hq _ _ _ h
   ·rename_i hw
    simp only[hw]at h;exact⟨h.1,ih h.2⟩
theorem U4 {P:Program}{F:Fence}{k:Nat}{c:Code}{Q Q':Exit->Act->World->Prop}(hq:∀e a w,Q e a w->Q' e a w):∀ {n:Nat} {a:Act} {w:World},Code.roundsIn F k P c Q n a w->Code.roundsIn F k P c Q' n a w
 |0,_,_,h=>h.elim
 |n+1,_,_,h=>bQ3 h fun e a w he=>by
  cases e with
  |normal=>exact U4 hq he
  |_=>exact hq _ _ _ he
section
variable {P :Program}{B:BS}{w0:World}{call:f9}
theorem TR.ER {σ:Sg}{nt:Nat}{tm:T Value}{a:Act}(h:TR σ nt tm a.tmps)(xs:Array Operand):∀x∈xs,∀v,d6 tm x=some v->VR σ v (a.eval x):=
 fun _ _ _ hv=>W6 h hv
theorem M8 (a:Act)(dst:Option Tmp)(v:Value):(a.put dst v).defers=a.defers:=by cases dst<;>rfl
theorem be0 (hcall : D7 P call) {nt : Nat} (ops : Array Oper) (r : Option Nat) : ∀ (l : List Oper) (k : Nat) (tm : T Value) (hp : Hp) (tm' : T Value) (hp' : Hp) (σ : Sg) (a : Act) (w : World),
  (∀j,l[j]? =ops[k+j]?)->aD1 P call nt ops.toList l tm hp=some (tm',hp')->TR σ nt tm a.tmps->HR B w0 σ hp w-> ∀D,a.defers=D->
  wpOpsIn (RF r) 0 P ops (ak5 hp.nx B w0 σ nt .normal tm' hp' D) (List.range' k l.length) a w:=by
 intro l
 induction l with
 |nil=>
  intro k tm hp tm' hp' σ a w _ h ht hw D hd;simp only[aD2,bF4,bF6]at h;obtain⟨rfl,rfl⟩:=h;exact⟨rfl,hd,σ,Sg.gr_refl _ σ,ht,hw⟩
 |cons o l ih=>
  intro k tm hp tm' hp' σ a w hl h ht hw D hd;have ho:ops[k]? =some o:=by simpa using(hl 0).symm
  have hl':∀j,l[j]? =ops[k+1+j]? :=fun j=>by have:=hl (j+1);simpa [bL4,Nat.add_comm 1 j]using this
  rw[P6]at h;simp only[bJ7,List.range'_succ,wpOpsIn,ho];cases hdst:B6 nt o.dst with
  |false=>rw[hdst]at h;cases h
  |true=>
   rw[hdst,bH1]at h;rw[aD6 ht ops o];cases hwt:q9 ops.toList tm o with
   |true=>
    rw[hwt,bH1]at h;rw[bH6 rfl];split at h
    ·rename_i v hp1 hx
     refine W7 hcall hx (ht.ER _) hw _ _ (fun σ' u w' hle hv hw'=>?_) r
     have ih':=ih (k+1) _ hp1 tm' hp' σ' (a.put o.dst u) w' hl' h ((ht.mono hle.le).putO hdst hv) hw' D (by rw[M8];exact hd)
     exact N4 (fun e a' w' hq=>ak5.le hle hq) _ ih'
    ·cases h
   |false=>
    rw[hwt,bH2]at h;rw[bH4 (by simp)]
    exact⟨fun _ _=>trivial,ih (k+1) _ hp tm' hp' σ _ w hl' h (ht.putO hdst (VR.undef σ)) hw D (by rw[M8];exact hd)⟩
end
inductive Df where
 |mark (r:Nat)
 |call (g:FuncId) (args cap:List Value)
def DfR (σ:Sg):Df->Deferred->Prop
 | .mark r,d=>∃p,σ r=some p/\d.target= .collected p.blk
 | .call g args cap,d=>∃cap',d.target= .fn (.func g) cap'/\VRL σ args d.args.toList/\VRL σ cap cap'.toList
def DsR (σ:Sg):List Df->List Deferred->Prop
 | [],[]=>True
 |x::xs,d::ds=>DfR σ x d/\DsR σ xs ds
 |_,_=>False
theorem DfR.mono {σ σ':Sg}(hs:Sg.le σ σ'){x:Df}{d:Deferred}(h:DfR σ x d):DfR σ' x d:=by
 cases x with
 |mark r=>obtain⟨p,h1,h2⟩:=h;exact⟨p,hs _ _ h1,h2⟩
 |call g args cap=>obtain⟨c,h1,h2,h3⟩:=h;exact⟨c,h1,h2.mono hs,h3.mono hs⟩
theorem DsR.mono {σ σ':Sg}(hs:Sg.le σ σ'):∀ {xs:List Df} {ds:List Deferred},DsR σ xs ds->DsR σ' xs ds
 | [],[],_=>trivial
 |_::_,_::_,h=>⟨h.1.mono hs,DsR.mono hs h.2⟩
 | [],_::_,h=>h.elim
 |_::_,[],h=>h.elim
def ArR (σ:Sg):Option Nat->Option Nat->Prop
 |none,none=>True
 |some j,some b=>∃p,σ j=some p/\p.blk=b
 |_,_=>False
theorem ArR.mono {σ σ':Sg}(hs:Sg.le σ σ'){ar r:Option Nat}(h:ArR σ ar r):ArR σ' ar r:=by
 cases ar<;>cases r<;>first|exact h| (obtain⟨p,h1,h2⟩:=h;exact⟨p,hs _ _ h1,h2⟩)
inductive XR where
 |mk (e:Exit) (tm:T Value) (hp:Hp) (ds:List Df)
abbrev E5:=f9->Nat->List Oper->T Value->Hp->Option (T Value×Hp)
def X2 (P:Program)(dr:E5):Prop:=
 ∀call,D7 P call-> ∀nt (ops:Array Oper) id tm hp tm' hp',dr call nt ops.toList tm hp=some (tm',hp')-> ∀B w0 σ a w,TR σ nt tm a.tmps->HR B w0 σ hp w-> ∀r,
  (Code.region id ops true).wpIn (RF r) 0 P (ak5 hp.nx B w0 σ nt .normal tm' hp' a.defers) a w
def aD3 (R:Option (Value×Hp))(l:Nat)(tm:T Value)(ds:List Df):Option XR:=
 match R with
 |some (_,hp)=>match hp.m.get l with
  |some (.loop .ready pend _ _ _ _ _ _)=>match pend with
   |none=>some (.mk .normal tm {hp with m:=hp.m.set l none} ds)
   |some _=>none
  |some (.loop .done pend _ _ _ _ _ _)=>match pend with
   |some .ret=>some (.mk .ret tm {hp with m:=hp.m.set l none} ds)
   |some (.exit id)=>some (.mk (.exit id) tm {hp with m:=hp.m.set l none} ds)
   |_=>none
  |_=>none
 |none=>none
def aa3 (P : Program) (call : f9) (nt : Nat) (ar : Option Nat) (f : Operand) (ps : Array Tmp) (assign body : Code) (tm : T Value) (hp : Hp) (ds : List Df) : Option XR :=
 match d6 tm f with
 | some (.func (.func g) first captured) => match P.funcs[g]? with
  | some fn => bif ao8 fn then
    match ar with
    |none=>aD3 (call.run g (first.toList++ [.chan (some (hp.nx+1))]++captured.toList) ⟨(hp.m.set hp.nx (some .dfr)).set (hp.nx+1) (some (.loop .ready none nt tm ps assign body hp.nx)),hp.nx+2⟩) (hp.nx+1) tm (.mark hp.nx::ds)
    |some j=>match hp.m.get j with
     |some (.loop _ _ _ _ _ _ _ db)=>aD3 (call.run g (first.toList++ [.chan (some hp.nx)]++captured.toList) ⟨hp.m.set hp.nx (some (.loop .ready none nt tm ps assign body db)),hp.nx+1⟩) hp.nx tm ds
     |_=>none
   else none
  |none=>none
 |_=>none
def bd7 (tm:T Value)(c:Call):Option Df:=
 match c.callee with
 | .value f=>match d6 tm f with
  |some (.func (.func g) first captured)=>match ag2 tm c.args.toList with
   |some args=>some (.call g (first.toList++args) captured.toList)
   |none=>none
  |_=>none
 |_=>none
def aJ9 :Op->Option Call
 | .defer c=>some c
 |_=>none
def ah7 (P:Program)(call:f9)(nt:Nat)(all:List Oper):List Oper->T Value->Hp->List Df->Option (T Value×Hp×List Df)
 | [],tm,hp,ds=>some (tm,hp,ds)
 |o::rest,tm,hp,ds=>
  bif B6 nt o.dst then
   bif q9 all tm o then
    match aJ9 o.op with
    |some c=>match bd7 tm c with
     |some d=>ah7 P call nt all rest (z6 tm o.dst undef) hp (d::ds)
     |none=>none
    |none=>match xop P call tm hp o.op with
     |some (v,hp')=>ah7 P call nt all rest (z6 tm o.dst v) hp' ds
     |none=>none
   else ah7 P call nt all rest (z6 tm o.dst undef) hp ds
  else none
def bj0 (P:Program)(call:f9)(nt:Nat)(ar:Option Nat)(ops:List Oper)(draw:Bool)(tm:T Value)(hp:Hp)(ds:List Df):Option XR:=
 match ar with
 |some _=>none
 |none=>bif draw then none else match ah7 P call nt ops ops tm hp ds with
  |some (tm',hp',ds')=>some (.mk .normal tm' hp' ds')
  |none=>none
def i6 (P:Program)(dr:E5)(call:f9)(nt:Nat)(ar:Option Nat):Nat->Code->T Value->Hp->List Df->Option XR
 |0,_,_,_,_=>none
 |m+1,c,tm,hp,ds=>match c with
  | .skip=>some (.mk .normal tm hp ds)
  | .label _=>some (.mk .normal tm hp ds)
  | .region _ ops draw=>match(bif draw then dr call nt ops.toList tm hp else aD1 P call nt ops.toList ops.toList tm hp)with
   |some (tm',hp')=>some (.mk .normal tm' hp' ds)
   |none=>bj0 P call nt ar ops.toList draw tm hp ds
  | .seq x y=>match i6 P dr call nt ar m x tm hp ds with
   |some (.mk .normal tm' hp' ds')=>i6 P dr call nt ar m y tm' hp' ds'
   |r=>r
  | .cond c x y=>match d6 tm c with
   |some (.bool true)=>i6 P dr call nt ar m x tm hp ds
   |some (.bool false)=>i6 P dr call nt ar m y tm hp ds
   |_=>none
  | .block id b=>match i6 P dr call nt ar m b tm hp ds with
   |some (.mk (.exit j) tm' hp' ds')=>bif Nat.beq j id then some (.mk .normal tm' hp' ds')else some (.mk (.exit j) tm' hp' ds')
   |r=>r
  | .loop b=>match i6 P dr call nt ar m b tm hp ds with
   |some (.mk .normal tm' hp' ds')=>i6 P dr call nt ar m (.loop b) tm' hp' ds'
   |r=>r
  | .exit id=>some (.mk (.exit id) tm hp ds)
  | .ret=>some (.mk .ret tm hp ds)
  | .scope b=>match i6 P dr call nt ar m b tm hp ds with
   |some (.mk .normal tm' hp' ds')=>some (.mk .normal tm' hp' ds')
   |some (.mk (.exit j) tm' hp' ds')=>some (.mk (.exit j) tm' hp' ds')
   |some (.mk .ret tm' hp' ds')=>some (.mk .ret tm' hp' ds')
   |_=>none
  | .rangeFunc f ps assign body=>aa3 P call nt ar f ps assign body tm hp ds
  |_=>none
def I3 (n:Nat)(B:BS)(w0:World)(σ:Sg)(nt:Nat)(e:Exit)(tm:T Value)(hp:Hp)(ds:List Df):Exit->Act->World->Prop:=
 fun e' a' w'=>e'=e/\ ∃σ',Sg.gr n hp.nx σ σ'/\DsR σ' ds a'.defers/\TR σ' nt tm a'.tmps/\HR B w0 σ' hp w'
theorem I3.le {B : BS} {w0 : World} {σ σ' : Sg} {n n1 : Nat} (h : Sg.gr n n1 σ σ') {nt : Nat} {e : Exit} {tm : T Value} {hp : Hp} {ds : List Df} {e' : Exit} {a' : Act} {w' : World} (hp' : I3 n1 B w0 σ' nt e tm hp ds e' a' w') :
  I3 n B w0 σ nt e tm hp ds e' a' w':=by
 obtain⟨h1,σ2,h3,h2,h4,h5⟩:=hp';exact⟨h1,σ2,Sg.gr_trans h h3,h2,h4,h5⟩
section
variable {P :Program}{B:BS}{w0:World}{call:f9}{dr:E5}
theorem J7 {b:Frame}{a:Act}{k:List Item}{cs:List Frame}{w:World}{c:Code}:step P (lone (b.atR a (.code (.scope c)::k)) cs w)= .next (lone (b.atR a (.code c:: .inScope c::k)) cs w):=
 step_lone_go (by simp[stepG,stepG.exec,Frame.atR])
theorem aF0 {b:Frame}{a:Act}{k:List Item}{cs:List Frame}{w:World}{c:Code}:step P (lone (b.atR a (.inScope c::k)) cs w)= .next (lone (b.atR a k) cs w):=
 step_lone_go (by simp[stepG,stepG.exec,Frame.atR])
theorem O3 {F:Fence}{n:Nat}{c:Code}{Q:Exit->Act->World->Prop}{a:Act}{w:World}(h:c.wpIn F n P (Exit.noGoto Q) a w):(Code.scope c).wpIn F n P Q a w:=by
 intro b k cs hro hb hr;have h0:(lone (b.atR a (.code (.scope c)::k)) cs w).fenced P F:=fenced_calm hb hr rfl;obtain⟨e,a₁,w₁,hq,harr⟩:=h b (.inScope c::k) cs hro hb hr;cases e with
 |normal=>exact⟨.normal,a₁,w₁,hq,.head h0 J7 (StepsIn.trans harr (.one (fenced_calm hb hr rfl) aF0))⟩
 |exit id=>
  have hx:exitTo id (.inScope c::k)=exitTo id k:=by simp[exitTo]
  exact⟨.exit id,a₁,w₁,hq,fun k' hk=>.head h0 J7 (harr.1 k' (by rw[hx];exact hk)),
   fun hr' hk=>let⟨k₁,h1,h2⟩:=harr.2 hr' (by rw[hx];exact hk);⟨k₁,h1,.head h0 J7 h2⟩⟩
 |goto l=>exact hq.elim
 |ret=>exact⟨_,a₁,w₁,hq,.of_steps (.one h0 J7) harr⟩
 |panic ch=>exact⟨_,a₁,w₁,hq,.of_steps (.one h0 J7) harr⟩
 |outgrown=>exact⟨_,a₁,w₁,hq,.of_steps (.one h0 J7) harr⟩
theorem HR.less {σ:Sg}{hp:Hp}{w:World}(h:HR B w0 σ hp w){m:T Blk}(hm:∀i b,m.get i=some b->hp.m.get i=some b):HR B w0 σ ⟨m,hp.nx⟩ w:=
 h.sub (bH7 _) hm
theorem HR.drop {σ:Sg}{hp:Hp}{w:World}(h:HR B w0 σ hp w)(l:Nat):HR B w0 σ {hp with m:=hp.m.set l none} w:=by
 refine h.less fun i b hg=>?_
 have hg:(hp.m.set l none).get i=some b:=hg;rw[T.get_set]at hg
 by_cases hi:i=l
 ·rw[bH6 hi]at hg;cases hg
 ·rw[bH4 hi]at hg;exact hg
theorem an8 (hcall : D7 P call) {g l : Nat} {xs : List Value} {tm : T Value} {hp : Hp} {ds : List Df} {e : Exit} {tm' : T Value} {hp' : Hp} {ds' : List Df} (h : aD3 (call.run g xs hp) l tm ds = some (.mk e tm' hp' ds'))
  {σ:Sg} {p:Pl} (hl:σ l=some p) {ys:List Value} (hv:VRL σ xs ys) {w:World} (hw:HR B w0 σ hp w) {nt:Nat} {a:Act} (ht:TR σ nt tm a.tmps) (hd:DsR σ ds a.defers) (r:Option Nat) (k:Nat):
  CallsIn (RF r) k P g ys.toArray w (rangePost (RF r) 0 P p.blk (I3 hp.nx B w0 σ nt e tm' hp' ds') a):=by
 unfold aD3 at h;split at h
 ·rename_i v hp1 hx
  have hc:=hcall.run g xs hp v hp1 hx B w0 σ w ys hv hw;refine(show CallsIn (RF r) k P g ys.toArray w _ from(callsIn_wide (n:=k)).2 hc).mono fun e' w1 he=>?_
  obtain ⟨σ1,u,rfl,gr,_,hw1⟩:=he;have hl1:=gr.le _ _ hl;have main : ∀ st pend nt' tms' ps' as' bo' db', hp1.m.get l = some (.loop st pend nt' tms' ps' as' bo' db') → st ≠ .busy →
    ∃w2,(Instr.endLoop p.blk).run P w1= .ok pend w2/\HR B w0 σ1 {hp1 with m:=hp1.m.set l none} w2:=by
   intro st pend nt' tms' ps' as' bo' db' hg hst;obtain⟨p',o,q1,q2,q3,q4⟩:=hw1.live l _ hg;have:p'=p:=bI0 (q1.symm.trans hl1);subst this;obtain⟨rec,rfl,k1,k2,k3,k4,k5,k6,k7⟩:=q4;refine⟨w1.putObj p'.blk (.loop {rec with state:= .exhausted}),?_,?_⟩
   ·rw[run_endLoop q3 (by rw[k1];exact hst),k2]
   ·have hs:=HR.setO (b':= .loop .exhausted pend nt' tms' ps' as' bo' db') hw1 hg q1 (o:= .loop {rec with state:= .exhausted}) ⟨_,rfl,rfl,k2,k3,k4,k5,k6,k7⟩
    have hs2:=HR.drop hs l;refine hs2.less fun i b hi=>?_
    have hi:(hp1.m.set l none).get i=some b:=hi;show((hp1.m.set l (some _)).set l none).get i=some b;rw[T.get_set]at hi⊢
    by_cases hil:i=l
    ·rw[bH6 hil]at hi;cases hi
    ·rw[bH4 hil]at hi⊢
     rw[T.get_set,bH4 hil];exact hi
  split at h
  ·rename_i pend nt' tms' ps' as' bo' db' hg
   obtain⟨w2,m1,m2⟩:=main _ _ _ _ _ _ _ _ hg (by simp)
   split at h
   ·simp only[bF4,XR.mk.injEq]at h
    obtain⟨rfl,rfl,rfl,rfl⟩:=h;exact⟨_,w2,m1,rfl,σ1,gr,hd.mono gr.le,ht.mono gr.le,m2⟩
   ·cases h
  ·rename_i pend nt' tms' ps' as' bo' db' hg
   obtain⟨w2,m1,m2⟩:=main _ _ _ _ _ _ _ _ hg (by simp)
   split at h
   ·simp only[bF4,XR.mk.injEq]at h
    obtain⟨rfl,rfl,rfl,rfl⟩:=h;exact⟨_,w2,m1,wpIn_ret ⟨rfl,σ1,gr,hd.mono gr.le,ht.mono gr.le,m2⟩⟩
   ·simp only[bF4,XR.mk.injEq]at h
    obtain⟨rfl,rfl,rfl,rfl⟩:=h;exact⟨_,w2,m1,wpIn_exit ⟨rfl,σ1,gr,hd.mono gr.le,ht.mono gr.le,m2⟩⟩
   ·cases h
  ·cases h
 ·cases h
theorem aq4 (hcall : D7 P call) {nt : Nat} {ar : Option Nat} {f : Operand} {ps : Array Tmp} {assign body : Code} {tm : T Value} {hp : Hp} {ds : List Df} {e : Exit} {tm' : T Value} {hp' : Hp} {ds' : List Df}
  (h:aa3 P call nt ar f ps assign body tm hp ds=some (.mk e tm' hp' ds')) {σ:Sg} {a:Act} {w:World} {r:Option Nat} (ht:TR σ nt tm a.tmps) (hw:HR B w0 σ hp w) (hd:DsR σ ds a.defers) (har:ArR σ ar r):
  (Code.rangeFunc f ps assign body).wpIn (RF r) 0 P (I3 hp.nx B w0 σ nt e tm' hp' ds') a w:=by
 unfold aa3 at h;split at h
 ·rename_i g first captured hf
  have hfv:=W6 ht hf;generalize hfe:a.eval f=fe at hfv;cases hfv with
  |func _ _ ys _ cs q1 q2 q3 q4=>
  have vf:VRL σ first.toList ys.toList:=⟨by simpa using q1,fun i x y h1 h2=>q2 i x y (by simpa using h1) (by simpa using h2)⟩
  have vc:VRL σ captured.toList cs.toList:=⟨by simpa using q3,fun i x y h1 h2=>q4 i x y (by simpa using h1) (by simpa using h2)⟩
  split at h
  ·rename_i fn hfn
   cases ho:ao8 fn with
   |false=>rw[ho]at h;cases h
   |true=>
    rw[ho,bH1]at h;have hres:∀l w,(resolve a.eval (rangeCall f l) 0).run P w= .ok {target:= .fn (.func g) cs,args:=ys++ #[Value.func (.yield l) #[] #[]]} w:=by
     intro l w;simp only[resolve,hfe,Deferred.ofValue,List.map_toArray,bK5,List.map_nil];rfl
    have hinv:∀l w,(invoke (.fn (.func g) cs) (ys++ #[Value.func (.yield l) #[] #[]])).run P w= .ok (.enter g (ys.toList++ [Value.func (.yield l) #[] #[]]++cs.toList).toArray) w:=by
     intro l w;have:(ys.toList++ [Value.func (.yield l) #[] #[]]++cs.toList).toArray=ys++ #[Value.func (.yield l) #[] #[]]++cs:=by apply bN5;simp
     rw[this];exact Y9 hfn ho w
    split at h
    ·cases r with
     |some b=>exact har.elim
     |none=>
      refine wpIn_rangeFunc fun fn0 _=>?_
      let p0:Pl:=⟨w.heap.size,0,0,0⟩
      let p1:Pl:=⟨w.heap.size+1,0,0,0⟩
      have n0:σ hp.nx=none:=hw.fresh _ (bH7 _);have n1:(σ.ext hp.nx p0) (hp.nx+1)=none:=by rw[Sg.ext_other _ _ _ (by omega)];exact hw.fresh _ (by omega)
      have h1:=hw.allocO hp.nx (hp.nx+1) n0 (bM9 _) (bL5 _) .dfr (.deferred (some [])) p0 rfl rfl;have g1:Sg.gr hp.nx (hp.nx+1) σ (σ.ext hp.nx p0):=⟨Sg.le_ext p0 n0,fun i hi=>Sg.ext_other _ _ _ (by omega),bM9 _⟩
      have g2:Sg.gr (hp.nx+1) (hp.nx+2) (σ.ext hp.nx p0) ((σ.ext hp.nx p0).ext (hp.nx+1) p1):=⟨Sg.le_ext p1 n1,fun i hi=>Sg.ext_other _ _ _ (by omega),bM9 _⟩
      have g12:=Sg.gr_trans g1 g2;have e0:((σ.ext hp.nx p0).ext (hp.nx+1) p1) hp.nx=some p0:=g2.le _ _ (Sg.ext_same _ _ _);have h2:=h1.allocO (hp.nx+1) (hp.nx+2) n1 (bM9 _) (bL5 _) (.loop .ready none nt tm ps assign body hp.nx)
       (.loop {state:= .ready,pending:=none,fn:=fn0,tmps:=a.tmps,params:=ps,assign,body,defers:=w.heap.size}) p1 (by simp[p1])
       ⟨_,rfl,rfl,rfl,rfl,rfl,rfl,⟨ht.size,fun k=>(ht.at_ k).mono g12.le⟩,p0,e0,rfl⟩
      refine⟨_,_,_,_,_,_,_,_,run_enterLoop_outer fn0 a.tmps ps assign body,hres _ _,fun _ _=>trivial,hinv _ _,fun h=>(by cases h),?_⟩
      have hs:=an8 (B:=B) (w0:=w0) hcall h (p:=p1) (Sg.ext_same _ _ _) ((vf.mono g12.le).append (VRL.cons (.yield (hp.nx+1) p1 (Sg.ext_same _ _ _)) (VRL.nil _))|>.append (vc.mono g12.le)) h2
       (a:= {a with defers:=[{target:= .collected w.heap.size,args:= #[]}]++a.defers}) (ht.mono g12.le) ⟨⟨p0,e0,rfl⟩,hd.mono g12.le⟩ none (0-1)
      refine hs.mono fun e' w' he=>?_
      cases e' with
      |returned v=>
       obtain⟨jump,w4,k1,k2⟩:=he;refine⟨jump,w4,k1,?_⟩;cases jump with
       |none=>exact I3.le g12 k2
       |some c=>exact bQ3 k2 fun e a w hq=>I3.le g12 hq
      |panicked chain=>exact I3.le g12 he
      |outgrown=>obtain⟨a0,w5,hq⟩:=he;exact⟨a0,w5,I3.le g12 hq⟩
    ·rename_i j
     cases r with
     |none=>exact har.elim
     |some b=>
      obtain⟨pj,hj,rfl⟩:=har;split at h
      ·rename_i st0 pend0 nt0 tms0 ps0 as0 bo0 db hg
       obtain⟨pj',o,u1,u2,u3,u4⟩:=hw.live j _ hg;have:pj'=pj:=bI0 (u1.symm.trans hj);subst this;obtain⟨rec,rfl,k1,k2,k3,k4,k5,k6,q,k7,k8⟩:=u4;refine wpIn_rangeFunc fun fn0 _=>?_
       let p1:Pl:=⟨w.heap.size,0,0,0⟩
       have n0:σ hp.nx=none:=hw.fresh _ (bH7 _);have g1:Sg.gr hp.nx (hp.nx+1) σ (σ.ext hp.nx p1):=⟨Sg.le_ext p1 n0,fun i hi=>Sg.ext_other _ _ _ (by omega),bM9 _⟩
       have h2:=hw.allocO hp.nx (hp.nx+1) n0 (bM9 _) (bL5 _) (.loop .ready none nt tm ps assign body db)
        (.loop {state:= .ready,pending:=none,fn:=fn0,tmps:=a.tmps,params:=ps,assign,body,defers:=rec.defers}) p1 rfl
        ⟨_,rfl,rfl,rfl,rfl,rfl,rfl,⟨ht.size,fun k=>(ht.at_ k).mono g1.le⟩,q,g1.le _ _ k7,k8⟩
       refine⟨_,_,_,_,_,_,_,_,run_enterLoop_inner u3 fn0 a.tmps ps assign body,hres _ _,fun _ _=>trivial,hinv _ _,fun h=>(by cases h),?_⟩
       have hs:=an8 (B:=B) (w0:=w0) hcall h (p:=p1) (Sg.ext_same _ _ _) ((vf.mono g1.le).append (VRL.cons (.yield hp.nx p1 (Sg.ext_same _ _ _)) (VRL.nil _))|>.append (vc.mono g1.le)) h2
        (a:= {a with defers:=[]++a.defers}) (ht.mono g1.le) (hd.mono g1.le) (some pj'.blk) (0-1)
       refine hs.mono fun e' w' he=>?_
       cases e' with
       |returned v=>
        obtain⟨jump,w4,k1,k2⟩:=he;refine⟨jump,w4,k1,?_⟩;cases jump with
        |none=>exact I3.le g1 k2
        |some c=>exact bQ3 k2 fun e a w hq=>I3.le g1 hq
       |panicked chain=>exact I3.le g1 he
       |outgrown=>obtain⟨a0,w5,hq⟩:=he;exact⟨a0,w5,I3.le g1 hq⟩
      ·cases h
  ·cases h
 ·cases h
theorem aN6 {σ : Sg} {nt : Nat} {tm : T Value} {c : Call} {d : Df} (h : bd7 tm c = some d) {a : Act} (ht : TR σ nt tm a.tmps) (ty : TypeId) (w : World) :
  ∃d',(resolve a.eval c ty).run P w= .ok d' w/\DfR σ d d':=by
 obtain⟨callee,cargs,cats⟩:=c;unfold bd7 at h;cases callee with
 |builtin b=>cases h
 |invoke r m=>cases h
 |value f=>
  simp only at h;split at h
  ·rename_i g first captured hf
   have hfv:=W6 ht hf;generalize hfe:a.eval f=fe at hfv;cases hfv with
   |func _ _ ys _ cs q1 q2 q3 q4=>
   split at h
   ·rename_i args hargs
    simp only[bF4]at h;subst h;have vf:VRL σ first.toList ys.toList:=⟨by simpa using q1,fun i x y h1 h2=>q2 i x y (by simpa using h1) (by simpa using h2)⟩
    have vc:VRL σ captured.toList cs.toList:=⟨by simpa using q3,fun i x y h1 h2=>q4 i x y (by simpa using h1) (by simpa using h2)⟩
    have va:=an1 (fun y _ v hv=>W6 ht hv) hargs
    refine⟨{target:= .fn (.func g) cs,args:=ys++cargs.map a.eval},?_,cs,rfl,?_,vc⟩
    ·simp only[resolve,hfe,Deferred.ofValue]
     rfl
    ·have:(ys++cargs.map a.eval).toList=ys.toList++cargs.toList.map a.eval:=by simp
     rw[this];exact vf.append va
   ·cases h
  ·cases h
theorem aX3 (hcall : D7 P call) {nt : Nat} (ops : Array Oper) : ∀ (l : List Oper) (k : Nat) (tm : T Value) (hp : Hp) (ds : List Df) (tm' : T Value) (hp' : Hp) (ds' : List Df) (σ : Sg) (a : Act) (w : World),
  (∀j,l[j]? =ops[k+j]?)->ah7 P call nt ops.toList l tm hp ds=some (tm',hp',ds')->TR σ nt tm a.tmps->HR B w0 σ hp w->DsR σ ds a.defers->
  wpOpsIn (RF none) 0 P ops (I3 hp.nx B w0 σ nt .normal tm' hp' ds') (List.range' k l.length) a w:=by
 intro l
 induction l with
 |nil=>
  intro k tm hp ds tm' hp' ds' σ a w _ h ht hw hd;simp only[ah7,bF4,bF6]at h;obtain⟨rfl,rfl,rfl⟩:=h;exact⟨rfl,σ,Sg.gr_refl _ σ,hd,ht,hw⟩
 |cons o l ih=>
  intro k tm hp ds tm' hp' ds' σ a w hl h ht hw hd;have ho:ops[k]? =some o:=by simpa using(hl 0).symm
  have hl':∀j,l[j]? =ops[k+1+j]? :=fun j=>by have:=hl (j+1);simpa [bL4,Nat.add_comm 1 j]using this
  simp only[ah7]at h;simp only[bJ7,List.range'_succ,wpOpsIn,ho];cases hdst:B6 nt o.dst with
  |false=>rw[hdst]at h;cases h
  |true=>
   rw[hdst,bH1]at h;rw[aD6 ht ops o];cases hwt:q9 ops.toList tm o with
   |true=>
    rw[hwt,bH1]at h;rw[bH6 rfl];split at h
    ·rename_i c hc
     split at h
     ·rename_i d hdf
      obtain⟨d',h1,h2⟩:=aN6 (P:=P) hdf ht o.type w;have hop:o.op= .defer c:=by
       unfold aJ9 at hc;split at hc
       ·rename_i c' hc';rw[hc'];cases hc;rfl
       ·cases hc
      refine⟨fun _ _=>trivial,?_⟩
      have hrun:(o.semAt (RF none).round a.eval).run P w= .ok (.defer d') w:=by
       show(o.semAt none a.eval).run P w=_;rw[Oper.semAt_none];unfold execOp;rw[hop];simp only[bI3,h1,bH9,bI8]
      rw[hrun,Oper.uponIn_defer];exact ih (k+1) _ hp (d::ds) tm' hp' ds' σ _ w hl' h (TR.putO (a:= {a with defers:=d'::a.defers}) ht hdst (VR.undef σ)) hw (by rw[M8];exact⟨h2,hd⟩)
     ·cases h
    ·split at h
     ·rename_i v hp1 hx
      refine W7 hcall hx (ht.ER _) hw _ _ (fun σ' u w' hle hv hw'=>?_) none
      have ih':=ih (k+1) _ hp1 ds tm' hp' ds' σ' (a.put o.dst u) w' hl' h ((ht.mono hle.le).putO hdst hv) hw' (by rw[M8];exact hd.mono hle.le)
      exact N4 (fun e a' w' hq=>I3.le hle hq) _ ih'
     ·cases h
   |false=>
    rw[hwt,bH2]at h;rw[bH4 (by simp)]
    exact⟨fun _ _=>trivial,ih (k+1) _ hp ds tm' hp' ds' σ _ w hl' h (ht.putO hdst (VR.undef σ)) hw (by rw[M8];exact hd)⟩
theorem at5 (hcall : D7 P call) {nt : Nat} {ar : Option Nat} {ops : Array Oper} {draw : Bool} {id : Nat} {tm : T Value} {hp : Hp} {ds : List Df} {e : Exit} {tm' : T Value} {hp' : Hp} {ds' : List Df}
  (h:bj0 P call nt ar ops.toList draw tm hp ds=some (.mk e tm' hp' ds')) {σ:Sg} {a:Act} {w:World} {r:Option Nat} (ht:TR σ nt tm a.tmps) (hw:HR B w0 σ hp w) (hd:DsR σ ds a.defers) (har:ArR σ ar r):
  (Code.region id ops draw).wpIn (RF r) 0 P (I3 hp.nx B w0 σ nt e tm' hp' ds') a w:=by
 cases ar with
 |some j=>cases h
 |none=>
  cases r with
  |some b=>exact har.elim
  |none=>
   cases draw with
   |true=>cases h
   |false=>
    simp only[bj0,bH2]at h;split at h
    ·rename_i tm1 hp1 ds1 hx
     simp only[bF4,XR.mk.injEq]at h;obtain⟨rfl,rfl,rfl,rfl⟩:=h;refine wpIn_region ?_;have:=aX3 (B:=B) (w0:=w0) hcall ops ops.toList 0 tm hp ds _ _ _ σ a w (by simp) hx ht hw hd
     rw[List.range_eq_range']
     simpa using this
    ·cases h
theorem N6 (hcall : D7 P call) (hdr : X2 P dr) {nt : Nat} {ar : Option Nat} : ∀ (m : Nat),
  (∀(c:Code) (tm:T Value) (hp:Hp) (ds:List Df) (e:Exit) (tm':T Value) (hp':Hp) (ds':List Df) (σ:Sg) (a:Act) (w:World) (r:Option Nat),i6 P dr call nt ar m c tm hp ds=some (.mk e tm' hp' ds')->TR σ nt tm a.tmps->HR B w0 σ hp w->DsR σ ds a.defers->ArR σ ar r->
   c.wpIn (RF r) 0 P (I3 hp.nx B w0 σ nt e tm' hp' ds') a w)/\
  (∀(c:Code) (tm:T Value) (hp:Hp) (ds:List Df) (e:Exit) (tm':T Value) (hp':Hp) (ds':List Df) (σ:Sg) (a:Act) (w:World) (r:Option Nat),i6 P dr call nt ar m (.loop c) tm hp ds=some (.mk e tm' hp' ds')->TR σ nt tm a.tmps->HR B w0 σ hp w->DsR σ ds a.defers->ArR σ ar r->
   Code.roundsIn (RF r) 0 P c (I3 hp.nx B w0 σ nt e tm' hp' ds') m a w):=by
 intro m
 induction m with
 |zero=>exact⟨fun c tm hp ds e tm' hp' ds' σ a w r h=>(by simp[i6]at h),fun c tm hp ds e tm' hp' ds' σ a w r h=>(by simp[i6]at h)⟩
 | succ m ih =>
  obtain ⟨ih1,ih2⟩:=ih;have hloop : ∀ (c : Code) (tm : T Value) (hp : Hp) (ds : List Df) (e : Exit) (tm' : T Value) (hp' : Hp) (ds' : List Df) (σ : Sg) (a : Act) (w : World) (r : Option Nat), i6 P dr call nt ar (m + 1) (.loop c) tm hp ds = some (.mk e tm' hp' ds') → TR σ nt tm a.tmps → HR B w0 σ hp w → DsR σ ds a.defers → ArR σ ar r →
    Code.roundsIn (RF r) 0 P c (I3 hp.nx B w0 σ nt e tm' hp' ds') (m+1) a w:=by
   intro c tm hp ds e tm' hp' ds' σ a w r h ht hw hd har;simp only[i6]at h;rw[roundsIn_succ];cases hb:i6 P dr call nt ar m c tm hp ds with
   |none=>simp only[hb,reduceCtorEq]at h
   |some rr=>
    obtain⟨e1,tm1,hp1,ds1⟩:=rr;refine bQ3 (ih1 c tm hp ds e1 tm1 hp1 ds1 σ a w r hb ht hw hd har) fun e' a' w' hq=>?_
    obtain⟨rfl,σ',hle,hd',ht',hw'⟩:=hq;cases e' with
    |normal=>
     simp only[hb]at h;exact U4 (fun e a w hq=>I3.le hle hq) (ih2 c tm1 hp1 ds1 e tm' hp' ds' σ' a' w' r h ht' hw' hd' (har.mono hle.le))
    |exit id=>simp only[hb,bF4,XR.mk.injEq]at h;obtain⟨rfl,rfl,rfl,rfl⟩:=h;exact⟨rfl,σ',hle,hd',ht',hw'⟩
    |goto id=>simp only[hb,bF4,XR.mk.injEq]at h;obtain⟨rfl,rfl,rfl,rfl⟩:=h;exact⟨rfl,σ',hle,hd',ht',hw'⟩
    |ret=>simp only[hb,bF4,XR.mk.injEq]at h;obtain⟨rfl,rfl,rfl,rfl⟩:=h;exact⟨rfl,σ',hle,hd',ht',hw'⟩
    |panic ch=>simp only[hb,bF4,XR.mk.injEq]at h;obtain⟨rfl,rfl,rfl,rfl⟩:=h;exact⟨rfl,σ',hle,hd',ht',hw'⟩
    |outgrown=>simp only[hb,bF4,XR.mk.injEq]at h;obtain⟨rfl,rfl,rfl,rfl⟩:=h;exact⟨rfl,σ',hle,hd',ht',hw'⟩
  refine⟨?_,hloop⟩;intro c tm hp ds e tm' hp' ds' σ a w r h ht hw hd har;cases c with
  |skip=>
   simp only[i6,bF4,XR.mk.injEq]at h;obtain⟨rfl,rfl,rfl,rfl⟩:=h;exact wpIn_skip ⟨rfl,σ,Sg.gr_refl _ σ,hd,ht,hw⟩
  |label l=>
   simp only[i6,bF4,XR.mk.injEq]at h;obtain⟨rfl,rfl,rfl,rfl⟩:=h;exact wpIn_label ⟨rfl,σ,Sg.gr_refl _ σ,hd,ht,hw⟩
  |exit id=>
   simp only[i6,bF4,XR.mk.injEq]at h;obtain⟨rfl,rfl,rfl,rfl⟩:=h;exact wpIn_exit ⟨rfl,σ,Sg.gr_refl _ σ,hd,ht,hw⟩
  |ret=>
   simp only[i6,bF4,XR.mk.injEq]at h;obtain⟨rfl,rfl,rfl,rfl⟩:=h;exact wpIn_ret ⟨rfl,σ,Sg.gr_refl _ σ,hd,ht,hw⟩
  |region id ops draw=>
   simp only[i6]at h;cases draw with
   |true=>
    simp only[bH1]at h;split at h
    ·rename_i tm1 hp1 hr
     simp only[bF4,XR.mk.injEq]at h;obtain⟨rfl,rfl,rfl,rfl⟩:=h;exact bQ3 (hdr call hcall nt ops id tm hp _ _ hr B w0 σ a w ht hw r) fun e' a' w' hq=>by
      obtain⟨h1,h2,σ',h3,h4,h5⟩:=hq;exact⟨h1,σ',h3,by rw[h2];exact hd.mono h3.le,h4,h5⟩
    ·exact at5 hcall h ht hw hd har
   |false=>
    simp only[bH2]at h;split at h
    ·rename_i tm1 hp1 hr
     simp only[bF4,XR.mk.injEq]at h;obtain⟨rfl,rfl,rfl,rfl⟩:=h;refine bQ3 (Q:=ak5 hp.nx B w0 σ nt .normal tm1 hp1 a.defers) (wpIn_region ?_) fun e' a' w' hq=>by
      obtain⟨h1,h2,σ',h3,h4,h5⟩:=hq;exact⟨h1,σ',h3,by rw[h2];exact hd.mono h3.le,h4,h5⟩
     have:=be0 (B:=B) (w0:=w0) hcall ops r ops.toList 0 tm hp _ _ σ a w (by simp) hr ht hw a.defers rfl
     rw[List.range_eq_range']
     simpa using this
    ·exact at5 hcall h ht hw hd har
  |seq x y=>
   simp only[i6]at h;cases hb:i6 P dr call nt ar m x tm hp ds with
   |none=>simp only[hb,reduceCtorEq]at h
   |some rr=>
    obtain⟨e1,tm1,hp1,ds1⟩:=rr;refine wpIn_seq (bQ3 (ih1 x tm hp ds e1 tm1 hp1 ds1 σ a w r hb ht hw hd har) fun e' a' w' hq=>?_)
    obtain⟨rfl,σ',hle,hd',ht',hw'⟩:=hq;cases e' with
    |normal=>
     simp only[hb]at h;exact bQ3 (ih1 y tm1 hp1 ds1 e tm' hp' ds' σ' a' w' r h ht' hw' hd' (har.mono hle.le)) (fun e a w hq=>I3.le hle hq)
    |exit id=>simp only[hb,bF4,XR.mk.injEq]at h;obtain⟨rfl,rfl,rfl,rfl⟩:=h;exact⟨rfl,σ',hle,hd',ht',hw'⟩
    |goto id=>simp only[hb,bF4,XR.mk.injEq]at h;obtain⟨rfl,rfl,rfl,rfl⟩:=h;exact⟨rfl,σ',hle,hd',ht',hw'⟩
    |ret=>simp only[hb,bF4,XR.mk.injEq]at h;obtain⟨rfl,rfl,rfl,rfl⟩:=h;exact⟨rfl,σ',hle,hd',ht',hw'⟩
    |panic ch=>simp only[hb,bF4,XR.mk.injEq]at h;obtain⟨rfl,rfl,rfl,rfl⟩:=h;exact⟨rfl,σ',hle,hd',ht',hw'⟩
    |outgrown=>simp only[hb,bF4,XR.mk.injEq]at h;obtain⟨rfl,rfl,rfl,rfl⟩:=h;exact⟨rfl,σ',hle,hd',ht',hw'⟩
  |cond c x y=>
   simp only[i6]at h;split at h
   ·rename_i hc
    have hcv:=W6 ht hc;generalize hce:a.eval c=cv at hcv;cases hcv;exact wpIn_cond_true hce (ih1 x tm hp ds e tm' hp' ds' σ a w r h ht hw hd har)
   ·rename_i hc
    have hcv:=W6 ht hc;generalize hce:a.eval c=cv at hcv;cases hcv;exact wpIn_cond_false hce (ih1 y tm hp ds e tm' hp' ds' σ a w r h ht hw hd har)
   ·cases h
  |block id b=>
   simp only[i6]at h;cases hb:i6 P dr call nt ar m b tm hp ds with
   |none=>simp only[hb,reduceCtorEq]at h
   |some rr=>
    obtain⟨e1,tm1,hp1,ds1⟩:=rr;refine wpIn_block (bQ3 (ih1 b tm hp ds e1 tm1 hp1 ds1 σ a w r hb ht hw hd har) fun e' a' w' hq=>?_)
    obtain⟨rfl,σ',hle,hd',ht',hw'⟩:=hq;cases e' with
    |normal=>simp only[hb,bF4,XR.mk.injEq]at h;obtain⟨rfl,rfl,rfl,rfl⟩:=h;exact⟨rfl,σ',hle,hd',ht',hw'⟩
    |exit j=>
     simp only[hb]at h
     by_cases hj:j=id
     ·subst hj
      rw[j9 rfl,bH1]at h;simp only[bF4,XR.mk.injEq]at h;obtain⟨rfl,rfl,rfl,rfl⟩:=h;simp only[Exit.inBlock,bO6];exact⟨rfl,σ',hle,hd',ht',hw'⟩
     ·rw[u6 hj,bH2]at h
      simp only[bF4,XR.mk.injEq]at h;obtain⟨rfl,rfl,rfl,rfl⟩:=h;simp only[Exit.inBlock,hj,bO5];exact⟨rfl,σ',hle,hd',ht',hw'⟩
    |goto id=>simp only[hb,bF4,XR.mk.injEq]at h;obtain⟨rfl,rfl,rfl,rfl⟩:=h;exact⟨rfl,σ',hle,hd',ht',hw'⟩
    |ret=>simp only[hb,bF4,XR.mk.injEq]at h;obtain⟨rfl,rfl,rfl,rfl⟩:=h;exact⟨rfl,σ',hle,hd',ht',hw'⟩
    |panic ch=>simp only[hb,bF4,XR.mk.injEq]at h;obtain⟨rfl,rfl,rfl,rfl⟩:=h;exact⟨rfl,σ',hle,hd',ht',hw'⟩
    |outgrown=>simp only[hb,bF4,XR.mk.injEq]at h;obtain⟨rfl,rfl,rfl,rfl⟩:=h;exact⟨rfl,σ',hle,hd',ht',hw'⟩
  |loop b=>exact wpIn_loop_rounds (m+1) (hloop b tm hp ds e tm' hp' ds' σ a w r h ht hw hd har)
  |rangeFunc f ps x y=>exact aq4 hcall (by simpa only[i6]using h) ht hw hd har
  |scope b=>
   simp only[i6]at h;cases hb:i6 P dr call nt ar m b tm hp ds with
   |none=>simp only[hb,reduceCtorEq]at h
   |some rr=>
    obtain⟨e1,tm1,hp1,ds1⟩:=rr;refine O3 (bQ3 (ih1 b tm hp ds e1 tm1 hp1 ds1 σ a w r hb ht hw hd har) fun e' a' w' hq=>?_)
    obtain⟨rfl,σ',hle,hd',ht',hw'⟩:=hq;cases e' with
    |normal=>simp only[hb,bF4,XR.mk.injEq]at h;obtain⟨rfl,rfl,rfl,rfl⟩:=h;exact⟨rfl,σ',hle,hd',ht',hw'⟩
    |exit id=>simp only[hb,bF4,XR.mk.injEq]at h;obtain⟨rfl,rfl,rfl,rfl⟩:=h;exact⟨rfl,σ',hle,hd',ht',hw'⟩
    |goto id=>simp only[hb,reduceCtorEq]at h
    |ret=>simp only[hb,bF4,XR.mk.injEq]at h;obtain⟨rfl,rfl,rfl,rfl⟩:=h;exact⟨rfl,σ',hle,hd',ht',hw'⟩
    |panic ch=>simp only[hb,reduceCtorEq]at h
    |outgrown=>simp only[hb,reduceCtorEq]at h
  |goto l=>simp only[i6,reduceCtorEq]at h
  |refuse s=>simp only[i6,reduceCtorEq]at h
end
def af9 (P:Program)(tm:T Value)(hp:Hp):ResultVar->Option Value
 | .tmp t=>some ((tm.get t).getD undef)
 | .cell a t=>E8 P hp t ((tm.get a).getD undef)
def E4 (P:Program)(tm:T Value)(hp:Hp):List ResultVar->Option (List Value)
 | []=>some []
 |r::rs=>match af9 P tm hp r with
  |some v=>match E4 P tm hp rs with
   |some vs=>some (v::vs)
   |none=>none
  |none=>none
def ae4 :List Value->Value
 | [v]=>v
 |vs=>.tuple vs.toArray
section
variable {P :Program}{B:BS}{w0:World}
theorem bp1 {σ : Sg} {hp : Hp} {w : World} {t : TypeId} {a a' v : Value} (h : E8 P hp t a = some v) (ha : VR σ a a') (hw : HR B w0 σ hp w) :
  ∃u,VR σ v u/\(do loadVar t (<-asAddr a'):Sem Value).run P w= .ok u w:=by
 obtain⟨u,h1,h2⟩:=at3 h ha hw;refine⟨u,h1,?_⟩;rw[<-h2];cases ha<;>first|rfl| (simp[E8]at h)
def aI2 (tmps:Array Value):ResultVar->Sem Value
 | .tmp t=>pure (tmps.getD t undef)
 | .cell a t=>do loadVar t (<-asAddr (tmps.getD a undef))
theorem L9 {σ : Sg} {hp : Hp} {w : World} {nt : Nat} {tm : T Value} {tmps : Array Value} (ht : TR σ nt tm tmps) (hw : HR B w0 σ hp w) :
  ∀ {rs:List ResultVar} {vs:List Value},E4 P tm hp rs=some vs->
  ∃us,VRL σ vs us/\(rs.mapM (aI2 tmps):Sem (List Value)).run P w= .ok us w
 | [],vs,h=>by simp only[E4,bF4]at h;subst h;exact⟨[],VRL.nil σ,by simp⟩
 |r::rs,vs,h=>by
  simp only[E4]at h;cases hr:af9 P tm hp r with
  |none=>simp[hr]at h
  |some v=>
   cases hrs:E4 P tm hp rs with
   |none=>simp[hr,hrs]at h
   |some vs'=>
    simp only[hr,hrs,bF4]at h;subst h;obtain⟨us,h1,h2⟩:=L9 ht hw hrs;cases r with
    |tmp t=>
     simp only[af9,bF4]at hr;subst hr;refine⟨_::us,VRL.cons (ht.at_ t) h1,?_⟩;rw[List.mapM_cons];simp only[aI2,bI3,bI8,bH9,h2]
    |cell a t=>
     simp only[af9]at hr;obtain⟨u,h3,h4⟩:=bp1 hr (ht.at_ a) hw;refine⟨u::us,VRL.cons h3 h1,?_⟩;rw[List.mapM_cons,bI3];have h4':(aI2 tmps (.cell a t)).run P w= .ok u w:=h4;rw[h4'];simp only[bH9,bI3,h2,bI8]
theorem TR.start {σ : Sg} {args args' : List Value} (h : VRL σ args args') (n : Nat) :
  TR σ (args.length+(n-args.length)) (fill .e 0 args) (args'.toArray++Array.replicate (n-args'.toArray.size) undef):=by
 have hl:=h.1;refine⟨by simp[hl],fun k=>?_⟩
 rw[i8]
 by_cases hk:k<args.length
 ·rw[bH6 (by omega)]
  have hk':k<args'.length:=by omega
  have e1:args[k-0]? =some args[k]:=by simp[hk]
  have e2:(args'.toArray++Array.replicate (n-args'.toArray.size) undef).getD k undef=args'[k]:=by
   simp[Array.getElem?_append,hk']
  rw[e1,e2];exact h.2 k _ _ (by simp[hk]) (by simp[hk'])
 ·rw[bH4 (by omega)]
  have e2:(args'.toArray++Array.replicate (n-args'.toArray.size) undef).getD k undef=undef:=by
   have hk':¬k<args'.length:=by omega
   simp only[Array.getD_eq_getD_getElem?,Array.getElem?_append,List.size_toArray,hk',bO5,Array.getElem?_replicate];split<;>rfl
  rw[e2];rw[T.get_e];exact VR.undef σ
end
end Go.Xe
end PartXm11
noncomputable section PartXm12
namespace Go.Xe
open Go.RowKit
def d9 :Op->Nat
 | .move _| .assign _| .pick _ _ _| .build _ _| .nilCheck _| .binOp _ _ _ _ _| .unOp _ _ _| .convert _ _ _| .makeInterface _ _| .makeFunc _ _ _
 | .fieldAddr _ _ _| .field _ _ _| .indexAddr _ _ _| .index _ _ _| .extract _ _=>0
 | .load _ _| .slice _ _ _ _ _| .lookup _ _ _ _| .call ⟨.builtin .len,_,_⟩=>1
 | .alloc e| .box e _=>bif Nat.beq e rgT then 3 else 2
 | .buildSlice _ _ _| .makeSlice _ _ _| .makeMap _ _| .range _ _=>2
 | .call ⟨.builtin .cap,_,_⟩| .call ⟨.builtin .min,_,_⟩| .call ⟨.builtin .max,_,_⟩=>0
 |_=>3
theorem aX2 {P:Program}{call:f9}{tm:T Value}{o:Op}(h:d9 o=0):∃r:Option Value,∀hp,xop P call tm hp o=f8 hp r:=by
 cases o with
 |move x=>exact⟨_,fun _=>rfl⟩
 |assign x=>exact⟨_,fun _=>rfl⟩
 |pick c a b=>
  simp only[c8,j8];split
  ·rename_i t _
   cases t<;>exact⟨_,fun _=>rfl⟩
  ·exact⟨none,fun _=>rfl⟩
 |build t ps=>simp only[c8,j8];split<;>first|exact⟨_,fun _=>rfl⟩|exact⟨none,fun _=>rfl⟩
 |nilCheck x=>
  simp only[c8,j8];split
  ·exact⟨some _,fun _=>rfl⟩
  ·exact⟨some _,fun _=>rfl⟩
  ·exact⟨none,fun _=>rfl⟩
 |binOp op t x y yt=>
  simp only[c8,j8];split
  ·split<;>first|exact⟨_,fun _=>rfl⟩|exact⟨none,fun _=>rfl⟩
  ·exact⟨none,fun _=>rfl⟩
 |unOp op t x=>simp only[c8,j8];split<;>first|exact⟨_,fun _=>rfl⟩|exact⟨none,fun _=>rfl⟩
 |convert s d x=>simp only[c8,j8];split<;>first|exact⟨_,fun _=>rfl⟩|exact⟨none,fun _=>rfl⟩
 |makeInterface t x=>simp only[c8,j8];split<;>first|exact⟨_,fun _=>rfl⟩|exact⟨none,fun _=>rfl⟩
 |makeFunc f a b=>
  simp only[c8,j8];split
  ·split<;>first|exact⟨some _,fun _=>rfl⟩|exact⟨none,fun _=>rfl⟩
  ·exact⟨none,fun _=>rfl⟩
 |fieldAddr t x f=>simp only[c8,j8];split<;>first|exact⟨_,fun _=>rfl⟩|exact⟨none,fun _=>rfl⟩
 |field t x f=>simp only[c8,j8];split<;>first|exact⟨_,fun _=>rfl⟩|exact⟨none,fun _=>rfl⟩
 |indexAddr t x i=>
  simp only[c8,j8];split
  ·split<;>first|exact⟨_,fun _=>rfl⟩|exact⟨none,fun _=>rfl⟩
  ·exact⟨none,fun _=>rfl⟩
 |index t x i=>
  simp only[c8,j8];split
  ·split<;>first|exact⟨_,fun _=>rfl⟩|exact⟨none,fun _=>rfl⟩
  ·exact⟨none,fun _=>rfl⟩
 |extract x i=>simp only[c8,j8];split<;>first|exact⟨_,fun _=>rfl⟩|exact⟨none,fun _=>rfl⟩
 |call c=>
  obtain⟨callee,args,ats⟩:=c;cases callee with
  |value f=>simp[d9]at h
  |invoke r m=>simp[d9]at h
  |builtin b=>
   simp only[c8,j8];split
   ·rename_i vs _
    generalize ats.toList=tl;cases b<;>first
     | (simp[d9]at h;done)
     | (rcases tl with _| ⟨t,_| ⟨u,r⟩⟩<;>rcases vs with _| ⟨x,_| ⟨y,r2⟩⟩<;>first|exact⟨_,fun _=>rfl⟩|exact⟨none,fun _=>rfl⟩)
   ·exact⟨none,fun _=>rfl⟩
 |alloc e=>simp only[d9]at h;cases hb:Nat.beq e rgT<;>rw[hb]at h<;>cases h
 |box e x=>simp only[d9]at h;cases hb:Nat.beq e rgT<;>rw[hb]at h<;>cases h
 |_=>simp[d9]at h
def xrd (P:Program)(tm:T Value)(hp:Hp)(o:Op):Option Value:=
 match xop P ⟨fun _ _ _=>none,fun _=>none,fun _ _ _=>none⟩ tm hp o with
 |some (v,hp')=>bif Nat.beq hp'.nx hp.nx then some v else none
 |none=>none
theorem at8 {P:Program}{hp hp':Hp}{t:TypeId}{x v:Value}{lo hi mx:Option Value}(h:p8 P hp t x lo hi mx=some (v,hp')):hp'=hp:=by
 have key:∀ {a:Value} {q:Hp},some (a,q)=some (v,hp')->q=hp->hp'=hp:=by
  intro a q e1 e2;simp only[bF4,bF6]at e1;rw[<-e1.2,e2]
 have bi:∀ {b:Bool} {x y:Option (Value×Hp)},(bif b then x else y)=some (v,hp')->(x=some (v,hp')->hp'=hp)->(y=some (v,hp')->hp'=hp)->hp'=hp:=by
  intro b x y e h1 h2;cases b
  ·exact h2 e
  ·exact h1 e
 unfold p8 at h;split at h
 ·split at h
  ·split at h
   ·cases h
   ·split at h
    ·exact key h rfl
    ·cases h
  ·cases h
 ·split at h
  ·cases h
  ·split at h
   ·refine bi h (fun h=>?_) (fun h=>by cases h)
    split at h
    ·exact key h rfl
    ·cases h
   ·split at h
    ·exact key h rfl
    ·cases h
   ·refine bi h (fun h=>?_) (fun h=>?_)
    ·refine bi h (fun h=>?_) (fun h=>by cases h)
     split at h
     ·cases h
     ·refine bi h (fun h=>key h rfl) (fun h=>key h rfl)
     ·refine bi h (fun h=>key h rfl) (fun h=>?_)
      refine bi h (fun h=>key h rfl) (fun h=>?_)
      ·split at h
       ·exact bi h (fun h=>key h rfl) (fun h=>by cases h)
       ·cases h
    ·refine bi h (fun h=>?_) (fun h=>by cases h)
     split at h
     ·cases h
     ·exact bi h (fun h=>key h rfl) (fun h=>key h rfl)
   ·cases h
 ·split at h
  ·cases h
  ·split at h
   ·refine bi h (fun h=>?_) (fun h=>by cases h)
    split at h
    ·cases h
    ·exact bi h (fun h=>key h rfl) (fun h=>key h rfl)
   ·cases h
 ·cases h
theorem bB8 {P : Program} {call : f9} {tm : T Value} {hp : Hp} {o : Op} {v : Value} (hk : d9 o = 1) (h : xrd P tm hp o = some v) : xop P call tm hp o = some (v, hp) := by
 unfold xrd at h;split at h
 ·rename_i v' hp' hx
  cases hb:Nat.beq hp'.nx hp.nx with
  |false=>rw[hb]at h;cases h
  | true =>
   rw [hb,bH1,bF4] at h;subst h;have same : hp' = hp := by
    cases o with
    |load t a=>
     simp only[c8,j8]at hx;split at hx
     ·exact(i5 hx).2
     ·cases hx
    |slice t x lo hi mx=>
     simp only[c8,j8]at hx;split at hx
     ·split at hx
      ·split at hx
       ·split at hx
        ·exact at8 hx
        ·cases hx
       ·cases hx
      ·cases hx
     ·cases hx
    |lookup t x k ok=>
     simp only[c8,j8]at hx;split at hx
     ·split at hx
      ·exact(i5 hx).2
      ·cases hx
     ·cases hx
    | call c =>
     obtain⟨callee,args,ats⟩:=c;cases callee with
     | builtin b =>
      cases b <;> first
       | (simp[d9]at hk;done)
       | (simp only [c8, j8] at hx
          split at hx
          ·generalize ats.toList=tl at hx
           rename_i vs _
           rcases tl with _| ⟨t,_| ⟨u,r⟩⟩<;>rcases vs with _| ⟨x,_| ⟨y,r2⟩⟩<;>simp only[z9,reduceCtorEq]at hx
           exact(i5 hx).2
          ·cases hx)
     |_=>simp[d9]at hk
    |alloc e=>simp only[d9]at hk;cases hb2:Nat.beq e rgT<;>rw[hb2]at hk<;>cases hk
    |box e x=>simp only[d9]at hk;cases hb2:Nat.beq e rgT<;>rw[hb2]at hk<;>cases hk
    |_=>simp[d9]at hk
   rw[same]at hx;cases o with
   |load t a=>exact hx
   |slice t x lo hi mx=>exact hx
   |lookup t x k ok=>exact hx
   |call c=>
    obtain⟨callee,args,ats⟩:=c;cases callee with
    |builtin b=>exact hx
    |_=>simp[d9]at hk
   |alloc e=>simp only[d9]at hk;cases hb2:Nat.beq e rgT<;>rw[hb2]at hk<;>cases hk
   |box e x=>simp only[d9]at hk;cases hb2:Nat.beq e rgT<;>rw[hb2]at hk<;>cases hk
   |_=>simp[d9]at hk
 ·cases h
section
variable {P :Program}{B:BS}{w0:World}{σ:Sg}{hp:Hp}{w:World}
def rest (B:BS)(σ:Sg)(hp:Hp)(w:World):BS:=⟨fun k=>B.D k\/(k<w.heap.size/\ ∀i b r p,hp.m.get i=some b->Ix b r->σ.f i r=some p->p.blk≠k),B.D,fun _ h=>.inl h⟩
theorem bv3 (h:HR B w0 σ hp w){k:Nat}(hk:rest B σ hp w k):k<w.heap.size:=by
 rcases hk with hk|hk
 ·have:=h.old k (B.sub k hk);have:=h.size;omega
 ·exact hk.1
theorem bv2 (_:HR B w0 σ hp w){i r:Nat}{b:Blk}{p:Pl}(hg:hp.m.get i=some b)(hx:Ix b r)(hp1:σ.f i r=some p)(hn:¬B p.blk):¬rest B σ hp w p.blk:=fun hb=>by
 rcases hb with hb|hb
 ·exact hn (B.sub _ hb)
 ·exact hb.2 i b r p hg hx hp1 rfl
theorem aT6 (h:HR B w0 σ hp w){k:Nat}(hk:B k):rest B σ hp w k:=by
 by_cases hd:B.D k
 ·exact .inl hd
 ·refine .inr ⟨by have:=h.old k hk;have:=h.size;omega,fun i b r p hg hx hp1 he=>?_⟩
  obtain⟨p',o,h1,h3,_⟩:=h.liv i b r hg hx;have:p'=p:=bI0 (h1.symm.trans hp1);subst this;cases hr:Q1 b with
  |true=>exact hd (he▸h3.yes hr)
  |false=>exact h3.no hr (he▸hk)
theorem HR.max (h:HR B w0 σ hp w):HR (rest B σ hp w) w σ hp w:=by
 refine⟨rfl,rfl,rfl,bH7 _,fun k hk=>bv3 h hk,fun k _=>rfl,h.frs,?_,h.ij,h.rz⟩
 intro i b r hg hx;obtain⟨p,o,h1,h2,h3,h4⟩:=h.liv i b r hg hx;exact⟨p,o,h1,h2.to id (bv2 h hg hx h1),h3,h4⟩
theorem HR.back (h:HR B w0 σ hp w){σ':Sg}{hp':Hp}{w':World}(k:HR (rest B σ hp w) w σ' hp' w'):HR B w0 σ' hp' w':=by
 refine⟨k.os.trans h.os,k.tape.trans h.tape,k.output.trans h.output,bL2 h.size k.size,h.old,fun b hb=>(k.kept b (aT6 h hb)).trans (h.kept b hb),k.frs,?_,k.ij,k.rz⟩
 intro i b r hg hx;obtain⟨p,o,h1,h3,h4⟩:=k.liv i b r hg hx;exact⟨p,o,h1,h3.to id (fun hn hb=>hn (aT6 h hb)),h4⟩
def Ext (B:BS)(σ:Sg)(hp:Hp)(w:World)(id:Nat)(n:Nw)(b:Nat):Prop:=
 ∃p o,σ id=some p/\p.blk=b/\w.heap[b]? =some o/\BR σ p n.blk o/\ ¬B b/\ ∀i b2 r q,hp.m.get i=some b2->Ix b2 r->σ.f i r=some q->q.blk≠b
def Hp.take (hp:Hp)(id:Nat)(n:Nw):Hp:= {hp with m:=hp.m.set id (some n.blk)}
theorem HR.take (h:HR B w0 σ hp w){id b:Nat}{n:Nw}(hx:Ext B σ hp w id n b):HR B w0 σ (hp.take id n) w:=by
 obtain⟨p,o,h1,rfl,h4,h6,h7,h8⟩:=hx;refine⟨h.os,h.tape,h.output,h.size,h.old,h.kept,h.frs,?_,?_,fun i b2 hg hb2=>?_⟩
 ·intro i b2 r hg hx
  simp only[Hp.take,T.get_set]at hg
  by_cases hi:i=id
  ·rw[bH6 hi]at hg
   simp only[bF4]at hg;subst hg;subst hi;have:=(Ix.of n.rg).1 hx;subst this;exact⟨p,o,h1,.of h7 n.ro,h4,(BX.of n.rg).2 h6⟩
  ·rw[bH4 hi]at hg
   exact h.liv i b2 r hg hx
 ·intro i j b1 b2 r s q q' hi hj hx hy hne hq hr
  simp only[Hp.take,T.get_set]at hi hj;have key:∀i b1 r q,(if i=id then some n.blk else hp.m.get i)=some b1->Ix b1 r->σ.f i r=some q->(i=id/\r=0/\q=p)\/(i≠id/\hp.m.get i=some b1):=by
   intro i b1 r q hi hx hq
   by_cases e:i=id
   ·rw[bH6 e]at hi
    simp only[bF4]at hi;subst hi;subst e;have:=(Ix.of n.rg).1 hx;subst this;exact .inl ⟨rfl,rfl,bI0 (hq.symm.trans h1)⟩
   ·rw[bH4 e]at hi;exact .inr ⟨e,hi⟩
  rcases key i b1 r q hi hx hq with⟨e1,e2,e3⟩| ⟨e1,e2⟩<;>rcases key j b2 s q' hj hy hr with⟨k1,k2,k3⟩| ⟨k1,k2⟩
  ·omega
  ·rw[e3];exact Ne.symm (h8 j _ s q' k2 hy hr)
  ·rw[k3];exact h8 i _ r q e2 hx hq
  ·exact h.ij i j _ _ r s q q' e2 k2 hx hy hne hq hr
 ·simp only[Hp.take,T.get_set]at hg
  by_cases hi:i=id
  ·rw[bH6 hi,bF4]at hg;subst hg;rw[n.rg]at hb2;cases hb2
  ·rw[bH4 hi]at hg;exact h.rz i b2 hg hb2
theorem HR.lay (h : HR B w0 σ hp w) {id : Nat} (hid : σ id = none) (hlt : id < hp.nx) (n : Nw) {o : Obj} {p : Pl} (hpb : p.blk = w.heap.size) (hv : BR σ p n.blk o) :
  HR B w0 (σ.ext id p) hp (w.alloc o)/\Ext B (σ.ext id p) hp (w.alloc o) id n w.heap.size:=by
 have hle:=Sg.le_ext (σ:=σ) p hid;have ha:=h.allocO id hp.nx hid (bH7 _) hlt n.blk o p hpb (hv.mono hle) n.ro n.rg;have hne:∀i b,hp.m.get i=some b->i≠id:=by
  intro i b hg e;subst e;cases hb:X9 b with
  |false=>obtain⟨p,o,h1,_⟩:=h.live _ b hg hb;rw[hid]at h1;cases h1
  |true=>obtain⟨⟨p,h1⟩,_⟩:=h.rz _ b hg hb;rw[hid]at h1;cases h1
 have hl:=ha.less (m:=hp.m) (fun i b hg=>by
  show(hp.m.set id _).get i=_;rw[T.get_set,bH4 (hne i b hg)];exact hg)
 refine⟨by simpa using hl,p,o,Sg.ext_same _ _ _,hpb,?_,hv.mono hle,?_,?_⟩
 ·show(w.heap.push _)[w.heap.size]? =_;simp
 ·intro hb
  have h1:=h.old _ hb;have h2:=h.size;omega
 ·intro i b r q hg hx hq
  rw[Sg.ext_row _ _ _ (.inl (hne i b hg))]at hq;obtain⟨p',o',h1,_,h4,_⟩:=h.liv i b r hg hx;have:p'=q:=bI0 (h1.symm.trans hq);subst this;have:=(bG9.1 h4).1;omega
end
end Go.Xe
end PartXm12
