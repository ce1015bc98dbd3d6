/- The executor, parts S, 13, 14, 15, D, 16, 17, 18, 19.
  Conditions: none. -/
import Derived.Test.YtcjhhnoaoldcmaaXm2
import Derived.OrdersIn
import Derived.ChangeSame
set_option linter.unusedSimpArgs false
set_option linter.unusedVariables false
noncomputable section PartXmS
namespace Go.Xe
open Go.RowKit
def clEq (v1 v2:List Value):Bool:= @decide (v1=v2) (Classical.propDecidable _)
theorem bt8 {v1 d:List Value}(h:clEq v1 d=true):v1=d:= @bH8 _ (Classical.propDecidable _) h
def ba0 (R : List Value → Hp → Option (Value × Hp)) (args : List Value) (hp : Hp) : Option (Value × Hp) :=
 match args with
 | [.slice (some ⟨i, o0, none⟩) l c, x, .slice (some ⟨j, o, none⟩) m cm] =>
  bif Nat.ble unk c && Nat.beq (B4 c) 0 && !(Nat.beq i j) && Nat.ble (l + m) 67108864 then
   match hp.m.get i,hp.m.get j with
   | some bi, some bj =>
    match R [.slice (some ⟨i, o0, none⟩) l (g9 (l + m) 0), x, .slice (some ⟨j, o, none⟩) m cm] ⟨(T.set .e i (some bi)).set j (some bj), hp.nx⟩,
      R [.slice (some ⟨i,o0,none⟩) l (g9 l (l+m)),x,.slice (some ⟨j,o,none⟩) m cm] ⟨(T.set .e i (some bi)).set j (some bj),hp.nx⟩with
    | some (.slice (some ⟨a, oa, none⟩) la ca, ha), some (.slice (some ⟨b, ob, none⟩) lb cb, hb) =>
     bif Nat.beq la lb && Nat.ble unk ca && Nat.ble unk cb then
      match ha.m.get a,hb.m.get b with
      | some (.cells c1 k1 e1 z1), some (.cells c2 k2 e2 z2) =>
       bif Nat.ble (oa + la * z1) k1 && Nat.ble (ob + la * z1) k2 && Nat.beq e1 e2 && Nat.beq z1 z2 then
        match f9 c1 oa (la*z1),f9 c2 ob (la*z1)with
        | some v1, some v2 => bif Q7 (veq 100) v1 v2 || clEq v1 v2 then
          some (.slice (some ⟨Nat.max ha.nx hb.nx,0,none⟩) la (g9 la 0),
           ⟨((hp.m.set i none).set j none).set (Nat.max ha.nx hb.nx) (some (.cells (fill .e 0 v1) (la*z1) e1 z1)),Nat.max ha.nx hb.nx+1⟩)
         else none
        |_,_=>none
       else none
      |_,_=>none
     else none
    |_,_=>none
   |_,_=>none
  else none
 |_=>none
def C6 (P : Program) (runD : FuncId → List Value → Hp → Option (Value × Hp)) : List Df → Hp → Option Hp
 | [],hp=>some hp
 | .mark r::ds,hp=>match hp.m.get r with
  |some .dfr=>C6 P runD ds {hp with m:=hp.m.set r none}
  |_=>none
 | .call g args cap :: ds, hp => match P.funcs[g]? with
  | some fn => bif O7 fn then
    match runD g (args++cap) hp with
    |some (_,hp')=>C6 P runD ds hp'
    |none=>none
   else none
  |none=>none
def as9 (P:Program)(fn:Func)(runD:FuncId->List Value->Hp->Option (Value×Hp))(tm:T Value)(hp:Hp)(ds:List Df):Option (Value×Hp):=
 match C6 P runD ds hp with
 |some hp'=>match t9 P tm hp' fn.results.toList with
  |some vs=>some (U4 vs,hp')
  |none=>none
 |none=>none
def ab6 (P:Program)(dr:F9)(call:c8)(runD:FuncId->List Value->Hp->Option (Value×Hp))(n:Nat)(f:FuncId)(args:List Value)(hp:Hp):Option (Value×Hp):=
 match P.funcs[f]? with
 |some fn=>match fn.body with
  |some c=>match d7 P dr call (args.length+(fn.ntmps-args.length)) none n c (fill .e 0 args) hp []with
   |some (.mk .normal tm' hp' ds)=>as9 P fn runD tm' hp' ds
   |some (.mk .ret tm' hp' ds)=>as9 P fn runD tm' hp' ds
   |_=>none
  |none=>none
 |none=>none
def K5 (P:Program)(dr:F9)(call:c8)(n:Nat)(f:FuncId)(args:List Value)(hp:Hp):Option (Value×Hp):=
 match P.funcs[f]? with
 |some fn=>match fn.body with
  |some c=>match d7 P dr call (args.length+(fn.ntmps-args.length)) none n c (fill .e 0 args) hp []with
   |some (.mk .normal tm' hp' [])=>as9 P fn (fun _ _ _=>none) tm' hp' []
   |some (.mk .ret tm' hp' [])=>as9 P fn (fun _ _ _=>none) tm' hp' []
   |_=>none
  |none=>none
 |none=>none
def ay0 (tm:T Value):List Tmp->List Value->T Value
 |t::ts,v::vs=>ay0 (tm.set t (some v)) ts vs
 |_,_=>tm
def ap6 (n:Nat):List Tmp->Bool
 | []=>true
 |t::ts=>Nat.blt t n&&ap6 n ts
def aB4 (P:Program)(dr:F9)(call:c8)(m:Nat)(i:Nat)(args:List Value)(hp:Hp):Option (Value×Hp):=
 match hp.m.get i with
 |some (.loop .ready _ nt tms ps assign body _)=>
  bif Nat.beq ps.toList.length args.length&&ap6 nt ps.toList then
   match d7 P dr call nt (some i) m assign (ay0 tms ps.toList args) hp []with
   |some (.mk .normal tm1 hp1 ds1)=>match hp1.m.get i with
    |some (.loop .ready p1 n1 t1 q1 a1 b1 d1)=>
     match d7 P dr call nt (some i) m body tm1 {hp1 with m:=hp1.m.set i (some (.loop .busy p1 n1 t1 q1 a1 b1 d1))} ds1 with
     |some (.mk e _ hp2 _)=>match hp2.m.get i with
      |some (.loop _ _ n2 t2 q2 a2 b2 d2)=>match e with
       | .normal=>some (.bool true,{hp2 with m:=hp2.m.set i (some (.loop .ready none n2 t2 q2 a2 b2 d2))})
       | .ret=>some (.bool false,{hp2 with m:=hp2.m.set i (some (.loop .done (some .ret) n2 t2 q2 a2 b2 d2))})
       | .exit id=>some (.bool false,{hp2 with m:=hp2.m.set i (some (.loop .done (some (.exit id)) n2 t2 q2 a2 b2 d2))})
       |_=>none
      |_=>none
     |none=>none
    |_=>none
   |_=>none
  else none
 |_=>none
def ar8 (R:List Value->Hp->Option (Value×Hp))(args:List Value)(hp:Hp):Option (Value×Hp):=
 match R args hp with
 |some r=>some r
 |none=>ba0 R args hp
def S6 (P:Program)(dr:F9)(ov:FuncId->Option TypeId):Nat->c8
 |0=>⟨fun _ _ _=>none,ov,fun _ _ _=>none⟩
 |n+1=>⟨fun f args hp=>bif isT (ov f)&&args.isEmpty then some (.bool true,hp)else ar8 (ab6 P dr (S6 P dr ov n) (K5 P dr (S6 P dr ov n) n) n f) args hp,ov,aB4 P dr (S6 P dr ov n) n⟩
section
variable {P :Program}{B:BS}{w0:World}
def bk5 (P:Program)(f:FuncId)(R:List Value->Hp->Option (Value×Hp)):Prop:=
 ∀args hp v hp',R args hp=some (v,hp')-> ∀B w0 σ w args',VRL σ args args'->HR B w0 σ hp w->
  Calls P f args'.toArray w (fun e w'=>∃σ' u,e= .returned u/\Sg.gr hp.nx hp'.nx σ σ'/\VR σ' v u/\HR B w0 σ' hp' w')
def aU0 (P:Program)(f:FuncId)(R:List Value->Hp->Option (Value×Hp)):Prop:=
 ∀args hp v hp',R args hp=some (v,hp')-> ∀B w0 σ w args',VRL σ args args'->HR B w0 σ hp w-> ∀u,
  CallsDIn Fence.wide 0 P f args'.toArray u w (fun e u' w'=>u'=u/\ ∃σ' x,e= .returned x/\Sg.gr hp.nx hp'.nx σ σ'/\VR σ' v x/\HR B w0 σ' hp' w')
variable {σ:Sg}{hp:Hp}{w:World}
theorem HR.touch (h:HR B w0 σ hp w){b:Nat}{o:Obj}(t:¬B b)(hl:∀i x q,hp.m.get i=some x->σ i=some q->q.blk≠b):HR B w0 σ hp {w with heap:=w.heap.setIfInBounds b o}:=by
 refine⟨h.os,h.tape,h.output,by simpa using h.size,h.old,fun k hk=>?_,h.fresh,fun i x r=>?_,h.inj⟩
 ·have d:b≠k:=fun e=>t (by rw[e];exact hk)
  simp[bJ3 d,h.kept k hk]
 ·obtain⟨p,o',h1,h2,h3,h4⟩:=h.live i x r
  refine⟨p,o',h1,h2,?_,h4⟩;have d:b≠p.blk:=(hl i x p r h1).symm;simp[bJ3 d,h3]
variable {tmps:Array Value}
theorem aq8 {fn:Func}{vs o:List Value}(h1:VRL σ vs o)(h2:(fn.results.toList.mapM (aF9 tmps):Sem (List Value)).run P w= .ok o w):(results fn tmps).run P w= .ok (U4 o) w/\VR σ (U4 vs) (U4 o):=by
 constructor
 ·have he:results fn tmps=(do let vs<-fn.results.mapM (aF9 tmps);pure (if h:vs.size=1 then vs[0]else .tuple vs):Sem Value):=rfl
  rw[he,Array.mapM_eq_mapM_toList,bD0,Sem.run_map,h2];simp only[bC6,bD5]
  congr 1
  cases o with
  |nil=>rfl
  |cons x o=>cases o<;>rfl
 ·cases vs with
  |nil=>rw[h1.unnil];exact VRL.to_tuple (VRL.nil σ)
  |cons x vs=>
   obtain⟨y,q,rfl,p,d⟩:=h1.uncons;cases vs with
   |nil=>rw[d.unnil];exact p
   |cons t vs=>
    obtain⟨u,r,rfl,_,_⟩:=d.uncons;exact h1.to_tuple
variable {runD:FuncId->List Value->Hp->Option (Value×Hp)}
theorem aL5  ( Z : ∀ g, aU0 P g (runD g)) {fn : Func}  {R : Ending → World → Prop} : ∀ (ds : List Df) (D : List Deferred) (hp hp' : Hp) (σ : Sg) (w : World),
  C6 P runD ds hp=some hp'->DsR σ ds D->HR B w0 σ hp w->(∀σ' w',Sg.gr hp.nx hp'.nx σ σ'->HR B w0 σ' hp' w'->LeavesIn Fence.wide 0 P fn tmps R [] .returning w')->LeavesInM Fence.wide 0 P fn tmps R D .returning w:=by
 intro ds
 induction ds with
 |nil=>
  intro D hp hp' σ w h hd z k;simp only[C6,bA1]at h;subst h;cases D with
  |nil=>exact k σ w (Sg.gr_refl _ σ) z
  |cons d D=>exact hd.elim
 |cons x ds W=>
  intro D hp hp' σ w h hd z k;cases D with
  |nil=>cases x<;>exact hd.elim
  |cons d D=>
   obtain⟨hx,hd⟩:=hd;cases x with
   |mark r=>
    simp only[C6]at h;split at h
    ·rename_i U
     obtain⟨p,hp1,u⟩:=hx;obtain⟨p',o,q1,q2,q3,N⟩:=z.live r _ U;have:p'=p:=bC7 (q1.symm.trans hp1);subst this;have N:o= .deferred (some []):=N;subst N;have M:=(HR.drop z r).touch (o:= .deferred none) q2 (fun i x q hi hq e=>by
      have hi:(hp.m.set r none).get i=some x:=hi;rw[T.get_set]at hi
      by_cases A:i=r
      ·grind
      ·rw[bC1 A]at hi
       exact z.inj i r x _ q p' hi U A hq q1 e)
     exact⟨by simp,.inl ⟨p'.blk,_,u,run_takeDeferred q3,W D _ hp' σ _ h hd M k⟩⟩
    ·cases h
   |call g args cap=>
    simp only[C6]at h;obtain⟨t,u,E,G⟩:=hx;split at h
    ·rename_i X C
     cases V:O7 X with
     |false=>grind
     |true=>
      rw[V,bB8]at h;split at h
      ·rename_i v hp1 hr
       refine⟨by simp,.inr ⟨fun h=>(by cases h),.func g,t,g,(d.args.toList++t.toList).toArray,u,?_,fun _ _=>trivial,?_⟩⟩
       ·rw[u]
        have:(d.args.toList++t.toList).toArray=d.args++t:=by apply bH9;simp
        rw[this];exact V7 C V w
       ·refine CallsDIn.mono (Z g (args++cap) hp v hp1 hr B w0 σ w _ (E.append G) z .returning) fun e u' w' he=>?_
        obtain⟨rfl,σ1,x,rfl,gr,_,K⟩:=he;exact W D hp1 hp' σ1 w' h (hd.mono gr.le) K fun σ' O Y J=>k σ' O (Sg.gr_trans gr Y) J
      ·cases h
    ·cases h
variable {dr:F9}{call:c8}
theorem aS4  (  p : U7 P dr)  ( T : B5 P call)  ( N : ∀ g, aU0 P g (runD g)) (n : Nat) (g : FuncId) : bk5 P g (ab6 P dr call runD n g) := by
 intro args hp v hp' h B w0 σ w args' O R;simp only[ab6]at h;split at h
 ·rename_i fn   q
  split at h
  ·rename_i c hc
   have   M : ∀ e tm1 hp1   d, (e = .normal ∨ e = .ret) → d7 P dr call (args.length + (fn.ntmps - args.length)) none n c (fill .e 0 args) hp [] = some (.mk e tm1 hp1   d) →
     as9 P fn runD tm1 hp1 d=some (v,hp')->
     Calls P g args'.toArray w (fun e w'=>∃σ' u,e= .returned u/\Sg.gr hp.nx hp'.nx σ σ'/\VR σ' v u/\HR B w0 σ' hp' w'):=by
    intro e tm1 hp1 d he hx hr;unfold as9 at hr;split at hr
    ·rename_i hp2 t
     split at hr
     ·rename_i vs C
      simp only[bA1,bA3]at hr;obtain⟨rfl,rfl⟩:=hr;refine callsIn_wide.1 (callsIn_of_wp_marks (n:=0) q hc trivial (bJ6 ((M2 (B:=B) (w0:=w0) T p n).1 c _ hp [] e tm1 hp1 d σ {tmps:=args'.toArray++Array.replicate (fn.ntmps-args'.toArray.size) undef,defers:=[]} w none hx (TR.start O fn.ntmps) R trivial trivial) fun e' a' w' hq=>?_))
      obtain⟨rfl,σ',r,hd,ht,E⟩:=hq;have K:LeavesInM Fence.wide 0 P fn a'.tmps (fun e w'=>∃σ' u,e= .returned u/\Sg.gr hp.nx hp2.nx σ σ'/\VR σ' (U4 vs) u/\HR B w0 σ' hp2 w') a'.defers .returning w':=
       aL5 N d a'.defers hp1 hp2 σ' w' t hd E fun G X J o=>by
        obtain⟨W,z,A⟩:=I9 (ht.mono J.le) o C;obtain⟨U,V⟩:=aq8 z A;exact⟨_,U,G,_,rfl,Sg.gr_trans r J,V,o⟩
      rcases he with rfl|rfl
      ·exact K
      ·exact K
     ·cases hr
    ·cases hr
   grind
  ·cases h
 ·cases h
theorem aK8  (  q : U7 P dr)  ( O : B5 P call) (n : Nat) (g : FuncId) : aU0 P g (K5 P dr call n g) := by
 intro args hp v hp' h B w0 σ w args' M N G;simp only[K5]at h;split at h
 ·rename_i fn   r
  split at h
  ·rename_i c hc
   have   J : ∀ e tm1 hp1, (e = .normal ∨ e = .ret) → d7 P dr call (args.length + (fn.ntmps - args.length)) none n c (fill .e 0 args) hp [] = some (.mk e tm1 hp1 []) →
     as9 P fn (fun _ _ _=>none) tm1 hp1 []=some (v,hp')->
     CallsDIn Fence.wide 0 P g args'.toArray G w (fun e T w'=>T=G/\ ∃σ' u,e= .returned u/\Sg.gr hp.nx hp'.nx σ σ'/\VR σ' v u/\HR B w0 σ' hp' w'):=by
    intro e tm1 hp1 he hx hr;unfold as9 at hr;simp only[C6]at hr;split at hr
    ·rename_i vs A
     simp only[bA1,bA3]at hr;obtain⟨rfl,rfl⟩:=hr;refine callsDIn_of_wp (R:=fun e w'=>∃σ' u,e= .returned u/\Sg.gr hp.nx hp1.nx σ σ'/\VR σ' (U4 vs) u/\HR B w0 σ' hp1 w') (n:=0) r hc trivial
      (bJ6 ((M2 (B:=B) (w0:=w0) O q n).1 c _ hp [] e tm1 hp1 [] σ {tmps:=args'.toArray++Array.replicate (fn.ntmps-args'.toArray.size) undef,defers:=[]} w none hx (TR.start M fn.ntmps) N trivial trivial) fun e' a' w' hq=>?_)
     obtain⟨rfl,σ',p,hd,ht,o⟩:=hq;obtain⟨U,t,z⟩:=I9 ht o A;obtain⟨C,E⟩:=aq8 t z;have hd:a'.defers=[]:=by
      cases K:a'.defers with
      |nil=>rfl
      |cons d D=>rw[K]at hd;exact hd.elim
     rcases he with rfl|rfl
     ·exact⟨hd,_,C,σ',_,rfl,p,E,o⟩
     ·exact⟨hd,_,C,σ',_,rfl,p,E,o⟩
    ·cases hr
   grind
  ·cases h
 ·cases h
theorem aF8 {σ : Sg} {nt : Nat} : ∀ (ps : List Tmp) (xs ys : List Value) (tm : T Value) (tmps : Array Value), ap6 nt ps = true → ps.length = xs.length → VRL σ xs ys → TR σ nt tm tmps →
  TR σ nt (ay0 tm ps xs) ((ps.zip ys).foldl (fun tmps (x:Tmp×Value)=>tmps.setIfInBounds x.1 x.2) tmps)
 | [],xs,ys,tm,tmps,_,_,_,h=>by cases xs<;>simpa [ay0]using h
 |t::q,[],ys,tm,tmps,_,hl,_,_=>by simp at hl
 |t::q,x::xs,ys,tm,tmps,d,hl,r,h=>by
  obtain⟨y,p,rfl,o,hr⟩:=r.uncons;simp only[ap6,bA2]at d;exact aF8 q xs p _ _ d.2 (by simpa using hl) hr (h.put (bA5 d.1) o)
theorem am8    ( q : HR B w0 σ hp w) {i : Nat} {p : Pl} (hi : σ i = some p) {st : LoopState} {pend : Option Code} {nt : Nat} {tms : T Value} {ps : Array Tmp} {assign body : Code} {db : Nat}
  (h:hp.m.get i=some (.loop st pend nt tms ps assign body db)) (d:Option Code):
  ∃w',(Instr.endRound p.blk d).run P w= .ok (.bool d.isNone) w'/\HR B w0 σ {hp with m:=hp.m.set i (some (.loop (if d.isNone then .ready else .done) d nt tms ps assign body db))} w':=by
 obtain⟨p',o,q1,q2,z,A⟩:=q.live i _ h;have:p'=p:=bC7 (q1.symm.trans hi);subst this;obtain⟨C,rfl,k1,k2,k3,r,t,u,v⟩:=A;exact⟨_,run_endRound d z,HR.setO q h q1 ⟨_,rfl,rfl,rfl,k3,r,t,u,v⟩⟩
theorem aL6  (  O : U7 P dr)  (ih : B5 P call) (m : Nat) : ∀ i args hp v hp', aB4 P dr call m i args hp = some (v, hp') → ∀ B w0 σ w args' p, σ i = some p → VRL σ args args' → HR B w0 σ hp w →
  ∃r,w.heap[p.blk]? =some (.loop r)/\args'.length=r.params.size/\
   RoundIn Fence.wide 0 P p.blk r.fn ((r.params.zip args'.toArray).foldl (fun tmps (t,a)=>tmps.setIfInBounds t a) r.tmps) r.assign r.body w (fun e w'=>∃σ' u,e= .returned u/\Sg.gr hp.nx hp'.nx σ σ'/\VR σ' v u/\HR B w0 σ' hp' w'):=by
 intro i args hp v hp' h B w0 σ w args' p hi ha hw;unfold aB4 at h;split at h
 ·rename_i pend nt tms ps assign body db hg
  cases hb:Nat.beq ps.toList.length args.length&&ap6 nt ps.toList with
  |false=>grind
  |true=>
   rw[hb,bB8]at h;simp only[bA2]at hb;have A:=bA6 hb.1;obtain⟨p',o,q1,q2,q3,q4⟩:=hw.live i _ hg;have:p'=p:=bC7 (q1.symm.trans hi);subst this;obtain⟨d,rfl,k1,k2,rfl,rfl,rfl,k6,k7⟩:=q4;refine⟨d,q3,by rw[<-ha.1,<-A];simp,?_⟩
   have C:(d.params.zip args'.toArray).foldl (fun tmps (x:Tmp×Value)=>tmps.setIfInBounds x.1 x.2) d.tmps=(d.params.toList.zip args').foldl (fun tmps (x:Tmp×Value)=>tmps.setIfInBounds x.1 x.2) d.tmps:=by
    rw[<-Array.foldl_toList,Array.toList_zip]
   have T:=aF8 d.params.toList args args' tms d.tmps hb.2 A ha ⟨k6.1,k6.2⟩;rw[<-C]at T;split at h
   ·rename_i tm1 hp1 K hx
    refine roundIn_of_wpIn (F:=Fence.wide) trivial (bJ6 ((M2 (B:=B) (w0:=w0) ih O m).1 d.assign _ hp [] .normal tm1 hp1 K σ {tmps:=_,defers:=[]} w (some p'.blk) hx T hw trivial ⟨p',hi,rfl⟩) fun e1 a1 w1 ab=>?_)
    obtain⟨rfl,σ1,M,hd1,ht1,U⟩:=ab;have q:=M.le _ _ hi;split at h
    ·rename_i p1 n1 t1 r1 X Y Z R
     obtain⟨p2,o2,u1,u2,u3,u4⟩:=U.live i _ R;have:p2=p':=bC7 (u1.symm.trans q);subst this;obtain⟨V,rfl,m1,m2,m3,m4,m5,m6,m7⟩:=u4;refine⟨_,run_beginRound u3 m1,?_⟩;have ad:=HR.setO (b':= .loop .busy p1 n1 t1 r1 X Y Z) U R q (o:= .loop {V with state:= .busy}) ⟨_,rfl,rfl,m2,m3,m4,m5,m6,m7⟩
     split at h
     ·rename_i e ai hp2 aa ae
      refine bJ6 ((M2 (B:=B) (w0:=w0) ih O m).1 d.body _ _ K e ai hp2 aa σ1 a1 _ (some p2.blk) ae ht1 ad hd1 ⟨p2,q,rfl⟩) fun e2 a2 w2 ac=>?_
      obtain⟨rfl,z,N,_,_,J⟩:=ac;have G:=N.le _ _ q;have gr:Sg.gr hp.nx hp2.nx σ z:=Sg.gr_trans M N;split at h
      ·rename_i ao ah n3 t3 r3 aj ak al E
       split at h
       ·simp only[bA1,bA3]at h
        obtain⟨rfl,rfl⟩:=h;obtain⟨W,s1,s2⟩:=am8 (P:=P) J G E none;exact⟨_,W,s1,z,_,rfl,gr,.bool true,s2⟩
       ·simp only[bA1,bA3]at h
        obtain⟨rfl,rfl⟩:=h;obtain⟨W,s1,s2⟩:=am8 (P:=P) J G E (some .ret);exact⟨_,W,s1,z,_,rfl,gr,.bool false,s2⟩
       ·rename_i id
        cases h;obtain⟨W,s1,s2⟩:=am8 (P:=P) J G E (some (.exit id));exact⟨_,W,s1,z,_,rfl,gr,.bool false,s2⟩
       ·cases h
      ·cases h
     ·cases h
    ·cases h
   ·cases h
 ·cases h
theorem az2 { A:Sg} {ha:Hp} {w':World} {i j a N : Nat} { U  V : Blk} {la ca : Nat} {c1 c2 : T Value} {k k2  E e z : Nat} {u : Value} (hw : HR B w0 σ hp w)
  (ao:hp.m.get i=some U) (ap:hp.m.get j=some V) (hr:HR (rest B σ ⟨(T.set .e i (some U)).set j (some V),hp.nx⟩ w) w A ha w') (gr:Sg.gr hp.nx ha.nx σ A)
  (hv:VR A (.slice (some ⟨a,E,none⟩) la ca) u) (ak:unk<=ca) (X:ha.m.get a=some (.cells c2 k2 e z)) (hk:E+k<=k2) (hc:∀x,x<k->c1.get x=c2.get (E+x)) (hN:ha.nx<=N):
  ∃σ',Sg.gr hp.nx (N+1) σ σ'/\VR σ' (.slice (some ⟨N,0,none⟩) la (g9 la 0)) u/\HR B w0 σ' ⟨((hp.m.set i none).set j none).set N (some (.cells c1 k e z)),N+1⟩ w':=by
 have G:∀x b,((T.set .e i (some U)).set j (some V):T Blk).get x=some b->(x=i\/x=j)/\hp.m.get x=some b:=by
  intro x b d;rw[T.get_set]at d
  by_cases hj:x=j
  ·grind
  ·rw[bC1 hj,T.get_set]at d
   by_cases hi:x=i
   ·grind
   ·rw[bC1 hi]at d
    simp[T.get_e]at d
 have ai:HR B w0 σ ⟨(T.set .e i (some U)).set j (some V),hp.nx⟩ w:=hw.less (fun x b d=>(G x b d).2)
 have hb:=ai.back hr;cases hv with
 |slice _ _ p _ _ c' aa ac Y=>
 have ad:A N=none:=hb.fresh N hN;have t:=Sg.le_ext (σ:=A) (i:=N) {p with dl:=p.dl+E} ad
 have aq:=gr.nx;obtain⟨p',o,l1,l2,l3,l4⟩:=hb.live a _ X;have:p'=p:=bC7 (l1.symm.trans aa);subst this;obtain⟨r,o',r1,r2,r3,_⟩:=hr.live a _ X;have:r=p':=bC7 (r1.symm.trans aa);subst this;have old:∀x b,x≠N->((((hp.m.set i none).set j none).set N (some (.cells c1 k e z))):T Blk).get x=some b->hp.m.get x=some b/\ ∃q o,σ x=some q/\NB B q.blk b/\w.heap[q.blk]? =some o/\BR σ q b o/\rest B σ ⟨(T.set .e i (some U)).set j (some V),hp.nx⟩ w q.blk:=by
  intro x b J d;rw[T.get_set,bC1 J,T.get_set]at d
  by_cases hj:x=j
  ·grind
  ·rw[bC1 hj,T.get_set]at d
   by_cases hi:x=i
   ·grind
   ·rw[bC1 hi]at d
    obtain⟨q,o,h1,h2,h3,h4⟩:=hw.live x b d;refine⟨d,q,o,h1,h2,h3,h4,.inr ⟨(bB6.1 h3).1,fun y b' r hy ah=>?_⟩⟩
    obtain⟨ab,R⟩:=G y b' hy;have aj:y≠x:=by rintro rfl;rcases ab with rfl|rfl<;>contradiction
    exact hw.inj y x _ _ r q R d aj ah h1
 refine⟨A.ext N {r with dl:=r.dl+E},⟨Sg.le_trans gr.le t,fun x hx=>(Sg.ext_other _ _ _ (by omega)).trans (gr.low x hx),by omega⟩,?_,?_⟩
 ·have := VR.slice (σ :=  A.ext N {  r with dl :=  r.dl +  E }) N 0 {  r with dl :=  r.dl +  E } la (g9 la 0) c' (Sg.ext_same _ _ _) (.inr ⟨u9 _ _, by rw [L8 I3]; exact   Y, .inl (L7 I3), by
   rcases ac with⟨_,h⟩| ⟨_,_,_,h⟩
   ·omega
   ·exact h⟩) Y
  exact this
 ·refine⟨hb.os,hb.tape,hb.output,hb.size,hb.old,hb.kept,fun x hx=>(Sg.ext_other _ _ _ (by have:N+1<=x:=hx;omega)).trans (hb.fresh x (by have:N+1<=x:=hx;omega)),?_,?_⟩
  ·intro x b d
   by_cases hx:x=N
   ·subst hx
    rw[T.get_set,bC3 rfl]at d;simp only[bA1]at d;subst d;obtain⟨C,W,M,e3,e4,e5⟩:=l4;refine⟨{r with dl:=r.dl+E},o,Sg.ext_same _ _ _,l2,l3,C,W,M,e3,(by show r.dl+E+k<=r.siz;omega),fun y hy=>?_⟩
    obtain⟨v,u,a1,a2,a3⟩:=e5 (E+y) (by omega)
    exact⟨v,u,(hc y hy).trans a1,(by show C[r.dl+E+y]? =some u;rw[bG0];exact a2),a3.mono t⟩
   ·obtain⟨al,q,o,h1,h2,h3,h4,h5⟩:=old x b hx d
    exact⟨q,o,t _ _ (gr.le _ _ h1),h2,(hr.kept _ h5).trans h3,h4.mono (Sg.le_trans gr.le t)⟩
  ·intro x y b1 b2 p1 p2 hx hy Z hp1 hp2
   by_cases J:x=N
   ·subst J
    have K:y≠x:=Ne.symm Z;obtain⟨_,q,o,h1,_,_,_,h5⟩:=old y b2 K hy;have W:p1= {r with dl:=r.dl+E}:=bC7 (hp1.symm.trans (Sg.ext_same _ _ _))
    have M:p2=q:=bC7 (hp2.symm.trans (t _ _ (gr.le _ _ h1)));subst W;subst M;exact fun O=>r2 (O▸h5)
   ·obtain⟨ae,q,o,h1,_,_,_,h5⟩:=old x b1 J hx
    have W:p1=q:=bC7 (hp1.symm.trans (t _ _ (gr.le _ _ h1)));subst W
    by_cases K:y=N
    ·subst K
     have M:p2= {r with dl:=r.dl+E}:=bC7 (hp2.symm.trans (Sg.ext_same _ _ _))
     subst M;exact fun O=>r2 (O▸h5)
    ·obtain⟨R,q2,o2,m1,_⟩:=old y b2 K hy
     have M:p2=q2:=bC7 (hp2.symm.trans (t _ _ (gr.le _ _ m1)));subst M;exact hw.inj x y _ _ _ _ ae R Z h1 m1
theorem aL9 {f : FuncId} {R : List Value → Hp → Option (Value × Hp)} (hR : bk5 P f R) : bk5 P f (ba0 R) := by
 intro args hp v hp' h B w0 σ w args' G hw;unfold ba0 at h;split at h
 case h_2=>cases h
 rename_i i o0 l c x j o m cm;cases hb:Nat.ble unk c&&Nat.beq (B4 c) 0&& !(Nat.beq i j)&&Nat.ble (l+m) 67108864 with
 |false=>grind
 |true=>
 rw[hb,bB8]at h;simp only[bA2]at hb;obtain⟨⟨⟨b1,b2⟩,b3⟩,b4⟩:=hb;have b1:=bA5 b1;have b4:=bA5 b4;split at h
 case h_2=>cases h
 rename_i bi bj Y Z;split at h
 case h_2=>cases h
 rename_i a oa la ca ha b ob lb cb X hA hB;cases t:Nat.beq la lb&&Nat.ble unk ca&&Nat.ble unk cb with
 |false=>grind
 |true=>
 rw[t,bB8]at h;simp only[bA2]at t;have d1:=bA6 t.1.1;have d2:=bA5 t.1.2;have d3:=bA5 t.2;subst d1;split at h
 case h_2=>cases h
 rename_i c1 k1 e1 z1 c2 k2 e2 z2 ad ae;cases q:Nat.ble (oa+la*z1) k1&&Nat.ble (ob+la*z1) k2&&Nat.beq e1 e2&&Nat.beq z1 z2 with
 |false=>grind
 |true=>
 rw[q,bB8]at h;simp only[bA2]at q;have f0:=bA5 q.1.1.1;have f1:=bA5 q.1.1.2;have f2:=bA6 q.1.2;have f3:=bA6 q.2;subst f2;subst f3;split at h
 case h_2=>cases h
 rename_i v1 v2 aa ah;cases d:Q7 (veq 100) v1 v2||clEq v1 v2 with
 |false=>rw[d]at h;cases h
 |true=>
 rw[d,bB8]at h;simp only[bA1,bA3]at h;obtain⟨rfl,rfl⟩:=h;have aj:v1=v2:=by
  rw[bH6]at d;exact d.elim (U8 (ao5 100)) bt8
 subst aj;have ai:=(u6 aa).1;have A:∀x,x<la*z1->(fill .e 0 v1).get x=c1.get (oa+x):=by
  intro x hx;rw[<-(u6 aa).2 x hx];exact C5 v1 x (by omega)
 have M:∀x,x<la*z1->(fill .e 0 v1).get x=c2.get (ob+x):=by
  intro x hx;rw[<-(u6 ah).2 x hx];exact C5 v1 x (by omega)
 have W:∀x b,((T.set .e i (some bi)).set j (some bj):T Blk).get x=some b->hp.m.get x=some b:=by
  intro x b hg;rw[T.get_set]at hg
  by_cases hj:x=j
  ·grind
  ·rw[bC1 hj,T.get_set]at hg
   by_cases hi:x=i
   ·grind
   ·rw[bC1 hi]at hg
    simp[T.get_e]at hg
 have E:=(hw.less W).max;obtain⟨s',r,rfl,hs,z⟩:=G.uncons;cases hs with
 |slice _ _ p _ _ c' ac ao J=>
 obtain⟨al,C⟩:G4 c<=c'/\p.dl+o0+c'*p.esz<=p.siz:=by
  grind
 have ab:l+m<unk:=by unfold unk;omega
 by_cases K:l+m<=c'
 ·have   O : VR σ (.slice (some ⟨i, o0, none⟩) l (g9 (l + m) 0)) (.slice (some ⟨p.blk, p.dl + o0, none⟩) l c') :=
   .slice i o0 p l _ c' ac (.inr ⟨u9 _ _,by rw[L8 I3];exact K,.inl (L7 I3),C⟩) J
  refine(hR _ _ _ _ hA _ _ _ _ _ (VRL.cons O z) E).mono fun e w' he=>?_
  obtain⟨ak,u,rfl,gr,U,V⟩:=he;obtain⟨σ',q1,q2,q3⟩:=az2 (N:=Nat.max ha.nx X.nx) hw Y Z V gr U d2 ad f0 A (Nat.le_max_left _ _);exact⟨σ',u,rfl,q1,q2,q3⟩
 ·have   O : VR σ (.slice (some ⟨i, o0, none⟩) l (g9 l (l + m))) (.slice (some ⟨p.blk, p.dl + o0, none⟩) l c') :=
   .slice i o0 p l _ c' ac (.inr ⟨u9 _ _,by rw[L8 ab];exact J,.inr (by rw[L7 ab];omega),C⟩) J
  refine(hR _ _ _ _ hB _ _ _ _ _ (VRL.cons O z) E).mono fun e w' he=>?_
  obtain⟨ak,u,rfl,gr,U,V⟩:=he;obtain⟨σ',q1,q2,q3⟩:=az2 (N:=Nat.max ha.nx X.nx) hw Y Z V gr U d3 ae f1 M (Nat.le_max_right _ _);exact⟨σ',u,rfl,q1,q2,q3⟩
theorem aM7 (d:U7 P dr){ov:FuncId->Option TypeId}(o:∀g t,ov g=some t->Z2 P g t):∀n,B5 P (S6 P dr ov n):=by
 intro n
 induction n with
 |zero=>exact⟨(fun g args hp v hp' h=>by cases h),o,(fun i args hp v hp' h=>by cases h)⟩
 |succ n p=>
  refine⟨fun g args hp v hp' h=>?_,o,aL6 d p n⟩
  simp only[S6,ar8]at h;cases ht:isT (ov g)&&args.isEmpty with
  |true=>
   rw[ht,bB8]at h;cases h;rw[bA2]at ht;intro B w0 σ w args' q u;obtain rfl:=List.isEmpty_iff.1 ht.2;obtain rfl:=q.unnil;have h1:=ht.1;unfold isT at h1;split at h1
   ·rename_i t e
    rcases o g t e with⟨_,k⟩| ⟨k,_⟩
    ·exact(k w).mono fun e w' he=>⟨σ,_,he.1,Sg.gr_refl _ σ,.bool true,u.below he.2⟩
    ·simp_all
   ·cases h1
  |false=>
  rw[ht,bB9]at h;have hb:=aS4 d p (aK8 d p n) n g;split at h
  ·rename_i r hr
   cases h;exact hb args hp v hp' hr
  ·exact aL9 hb args hp v hp' h
end
end Go.Xe
end PartXmS
noncomputable section PartXm13
namespace Go.Xe
open Go.RowKit
structure Ent where
 i:Nat
 o:Oper
 pre:Nat
 tm:T Value
 S:Hp
 S2:Hp
 I:Nat
 wt:Bool
 r:Value
 nw:Option Nw
def takes (nx0:Nat)(m:Nat->Bool):List Ent->Hp->Hp
 | [],S=>S
 |e::es,S=>match e.nw with
  |some n=>bif m e.i then takes nx0 m es (S.take (nx0+e.i) n)else takes nx0 m es S
  |none=>takes nx0 m es S
def ae3 (pre I:Nat)(j:Nat):Bool:=pre.testBit j&& !I.testBit j
def ab0 (I:Nat)(j:Nat):Bool:= !I.testBit j
structure Out where
 tm:T Value
 S:Hp
 I:Nat
 es:List Ent
def xgo (P:Program)(call:c8)(nt:Nat)(all:List Oper)(nx0:Nat):List (Oper×Nat)->Nat->T Value->Hp->Nat->List Ent->Option Out
 | [],_,tm,S,I,es=>some ⟨tm,S,I,es⟩
 | (o,pre)::rest,i,tm,S,I,es=>
  bif l5 nt o.dst then
   bif f8 all tm o then
    match c6 o.op with
    |0=>match xop P call tm S o.op with
     |some (v,_)=>xgo P call nt all nx0 rest (i+1) (j2 tm o.dst v) S I (⟨i,o,pre,tm,S,S,I,true,v,none⟩::es)
     |none=>none
    |1=>match xrd P tm S o.op with
     |some v=>xgo P call nt all nx0 rest (i+1) (j2 tm o.dst v) S I (⟨i,o,pre,tm,S,S,I,true,v,none⟩::es)
     |none=>none
    |2=>match xnw P tm o.op with
     |some n=>xgo P call nt all nx0 rest (i+1) (j2 tm o.dst (n.val (nx0+i))) S I (⟨i,o,pre,tm,S,S,I,true,n.val (nx0+i),some n⟩::es)
     |none=>none
    |_=>match xop P call tm (takes nx0 (ae3 pre I) es S) o.op with
     |some (v,S2)=>xgo P call nt all nx0 rest (i+1) (j2 tm o.dst v) S2 (I|||pre) (⟨i,o,pre,tm,S,S2,I,true,v,none⟩::es)
     |none=>none
   else xgo P call nt all nx0 rest (i+1) (j2 tm o.dst undef) S I (⟨i,o,pre,tm,S,S,I,false,undef,none⟩::es)
  else none
structure aU1 (P:Program)(call:c8)(nt:Nat)(all:List Oper)(nx0:Nat)(e:Ent)(es:List Ent)(tm':T Value)(S':Hp)(I':Nat):Prop where
 dst:l5 nt e.o.dst=true
 wt:e.wt=f8 all e.tm e.o
 tm:tm'=j2 e.tm e.o.dst e.r
 S2:e.S2=S'
 un:e.wt=false->e.r=undef/\e.nw=none
 low:(e.wt=false\/c6 e.o.op≠3)->S'=e.S/\I'=e.I
 k0:e.wt=true->c6 e.o.op=0-> ∀S,xop P call e.tm S e.o.op=some (e.r,S)
 k1:e.wt=true->c6 e.o.op=1->xrd P e.tm e.S e.o.op=some e.r
 k2:e.wt=true->c6 e.o.op=2-> ∃n,xnw P e.tm e.o.op=some n/\e.r=n.val (nx0+e.i)/\e.nw=some n
 k3:e.wt=true->3<=c6 e.o.op->xop P call e.tm (takes nx0 (ae3 e.pre e.I) es e.S) e.o.op=some (e.r,S')/\I'=e.I|||e.pre
 nw:c6 e.o.op≠2->e.nw=none
inductive E0 (P : Program) (call : c8) (nt : Nat) (all : List Oper) (nx0 : Nat) (tmN : T Value) (SN : Hp) (IN : Nat) : List Ent → List Ent → T Value → Hp → Nat → Prop
 |nil (es:List Ent):E0 P call nt all nx0 tmN SN IN es [] tmN SN IN
 | cons (e : Ent) (es s : List Ent) (tm' : T Value) (S' : Hp) (I' : Nat) (hi : e.i = es.length) (h : aU1 P call nt all nx0 e es tm' S' I')
   (hc:E0 P call nt all nx0 tmN SN IN (e::es) s tm' S' I'):E0 P call nt all nx0 tmN SN IN es (e::s) e.tm e.S e.I
theorem aj8 (o:Op):c6 o<=3:=by
 unfold c6;split<;>omega
section
variable {P :Program}{call:c8}{nt:Nat}{all:List Oper}{nx0:Nat}{tmN:T Value}{SN:Hp}{IN:Nat}
theorem bj3 : ∀ (ps : List (Oper × Nat)) (i : Nat) (tm : T Value) (S : Hp) (I : Nat) (es : List Ent) (  d : Out), xgo P call nt all nx0 ps i tm S I es = some   d → i = es.length →
  ∃s,d.es=s.reverse++es/\s.map (fun e=>(e.o,e.pre))=ps/\E0 P call nt all nx0 d.tm d.S d.I es s tm S I:=by
 intro ps
 induction ps with
 |nil=>
  intro i tm S I es d h hi;simp only[xgo,bA1]at h;subst h;exact⟨[],rfl,rfl,.nil es⟩
 | cons p ps  C =>
  intro i tm S I es d h hi;obtain⟨o,pre⟩:=p;simp only[xgo]at h;cases hd:l5 nt o.dst with
  |false=>grind
  | true =>
   rw [hd,bB8] at h;have next : ∀ (e : Ent) (S' : Hp) (I' : Nat), e.i = i → e.o = o → e.pre = pre → e.tm = tm → e.S = S → e.I = I → aU1 P call nt all nx0 e es (j2 tm o.dst e.r) S' I' →
     xgo P call nt all nx0 ps (i+1) (j2 tm o.dst e.r) S' I' (e::es)=some d->
     ∃s,d.es=s.reverse++es/\s.map (fun e=>(e.o,e.pre))=(o,pre)::ps/\E0 P call nt all nx0 d.tm d.S d.I es s tm S I:=by
    rintro e S' I' rfl rfl rfl rfl rfl rfl hs hx
    obtain⟨s,h1,h2,h3⟩:=C _ _ _ _ _ _ hx (by simp[hi])
    exact⟨e::s,by simp[h1],by simp[h2],.cons e es s _ _ _ hi hs h3⟩
   cases q:f8 all tm o with
   |false=>
    rw[q,bB9]at h;refine next ⟨i,o,pre,tm,S,S,I,false,undef,none⟩ S I rfl rfl rfl rfl rfl rfl ⟨hd,q.symm,rfl,rfl,fun _=>⟨rfl,rfl⟩,fun _=>⟨rfl,rfl⟩,?_,?_,?_,?_,fun _=>rfl⟩ h<;>(intro hf;cases hf)
   |true=>
    rw[q,bB8]at h;split at h
    ·rename_i hk
     split at h
     ·rename_i v S2 hx
      obtain⟨r,hr⟩:=aB2 (P:=P) (call:=call) (tm:=tm) hk;have t:r=some v:=by
       rw[hr]at hx;exact(e9 hx).1
      refine next ⟨i,o,pre,tm,S,S,I,true,v,none⟩ S I rfl rfl rfl rfl rfl rfl ⟨hd,q.symm,rfl,rfl,fun hf=>(by cases hf),fun _=>⟨rfl,rfl⟩,fun _ _ S=>?_,fun _ h1=>?_,fun _ h1=>?_,fun _ h1=>?_,fun _=>rfl⟩ h
      ·rw[hr,t];rfl
      ·grind
      ·grind
      ·grind
     ·cases h
    ·rename_i hk
     split at h
     ·rename_i v hx
      refine next ⟨i,o,pre,tm,S,S,I,true,v,none⟩ S I rfl rfl rfl rfl rfl rfl ⟨hd,q.symm,rfl,rfl,fun hf=>(by cases hf),fun _=>⟨rfl,rfl⟩,fun _ h1=>?_,fun _ _=>hx,fun _ h1=>?_,fun _ h1=>?_,fun _=>rfl⟩ h
      ·grind
      ·grind
      ·grind
     ·cases h
    ·rename_i hk
     split at h
     ·rename_i n hx
      refine next ⟨i,o,pre,tm,S,S,I,true,n.val (nx0+i),some n⟩ S I rfl rfl rfl rfl rfl rfl ⟨hd,q.symm,rfl,rfl,fun hf=>(by cases hf),fun _=>⟨rfl,rfl⟩,fun _ h1=>?_,fun _ h1=>?_,fun _ _=>⟨n,hx,rfl,rfl⟩,fun _ h1=>?_,fun h1=>absurd hk h1⟩ h
      ·grind
      ·grind
      ·grind
     ·cases h
    ·rename_i u z A
     have h3:c6 o.op=3:=by
      have:=aj8 o.op
      grind
     split at h
     ·rename_i v S2 hx
      refine next ⟨i,o,pre,tm,S,S2,I,true,v,none⟩ S2 (I|||pre) rfl rfl rfl rfl rfl rfl ⟨hd,q.symm,rfl,rfl,fun hf=>(by cases hf),fun hl=>?_,fun _ h1=>?_,fun _ h1=>?_,fun _ h1=>?_,fun _ _=>⟨hx,rfl⟩,fun _=>rfl⟩ h
      ·grind
      ·grind
      ·grind
      ·grind
     ·cases h
variable {es s:List Ent}{tm:T Value}{S:Hp}{I:Nat}
theorem E0.get     (h : E0 P call nt all nx0 tmN SN IN es s tm S I) : ∀ {k : Nat} {e : Ent}, s[k]? = some e →
  e.i=es.length+k/\ ∃tm' S' I',aU1 P call nt all nx0 e ((s.take k).reverse++es) tm' S' I'/\E0 P call nt all nx0 tmN SN IN (e::((s.take k).reverse++es)) (s.drop (k+1)) tm' S' I':=by
 induction h with
 |nil es=>grind
 |cons e0 es s tm' S' I' hi hs hc d=>grind
theorem E0.upTo     (h : E0 P call nt all nx0 tmN SN IN es s tm S I) : ∀ {k : Nat} {e : Ent}, s[k]? = some e →
  E0 P call nt all nx0 e.tm e.S e.I es (s.take k) tm S I:=by
 induction h with
 |nil es=>grind
 |cons e0 es s tm' S' I' hi hs hc d=>
  intro k e h;cases k with
  |zero=>
   simp only[bB7,bA1]at h;subst h;exact .nil es
  |succ k=>
   simp only[bB2]at h;exact .cons e0 es _ tm' S' I' hi hs (d h)
theorem E0.tm_none (h:E0 P call nt all nx0 tmN SN IN es s tm S I){t:Nat}(hn:∀e∈s,e.o.dst≠some t):tmN.get t=tm.get t:=by
 induction h with
 |nil es=>rfl
 |cons e0 es s tm' S' I' hi hs hc p=>
  rw[p (fun e he=>hn e (by simp[he])),hs.tm]
  have h0:=hn e0 (by simp)
  unfold j2;cases hd:e0.o.dst with
  |none=>rfl
  |some d=>
   simp only;rw[T.get_set,bC1 (fun e=>h0 (by rw[hd,e]))]
theorem E0.tm_some     (h : E0 P call nt all nx0 tmN SN IN es s tm S I) : ∀ {k : Nat} {e : Ent} {t : Nat}, s[k]? = some e → e.o.dst = some t →
  (∀(j:Nat) e',s[j]? =some e'->j≠k->e'.o.dst≠some t)->tmN.get t=some e.r:=by
 induction h with
 |nil es=>grind
 |cons e0 es s tm' S' I' hi hs hc u=>
  intro k e t h hd p;cases k with
  |zero=>
   simp only[bB7,bA1]at h;subst h;have d:∀e∈s,e.o.dst≠some t:=by
    intro e he;obtain⟨j,hj,rfl⟩:=List.mem_iff_getElem.1 he;exact p (j+1) _ (by simp[hj]) (by omega)
   rw[hc.tm_none d,hs.tm];unfold j2;rw[hd];simp only;rw[T.get_set,bC3 rfl]
  |succ k=>
   simp only[bB2]at h;exact u h hd (fun j e' hj q=>p (j+1) e' (by simpa using hj) (by omega))
theorem E0.still (h:E0 P call nt all nx0 tmN SN IN es s tm S I)(hn:∀e∈s,c6 e.o.op≠3):SN=S/\IN=I:=by
 induction h with
 |nil es=>grind
 |cons e0 es s tm' S' I' hi hs hc d=>
  obtain⟨h1,h2⟩:=d (fun e he=>hn e (by simp[he]))
  obtain⟨h3,h4⟩:=hs.low (.inr (hn e0 (by simp)))
  grind
end
section
variable {P :Program}{B:BS}{w0:World}{σ:Sg}{hp:Hp}{w:World}
variable {id:Nat}
theorem Ext.take {d b b':Nat}{n n':Nw}(h:Ext B σ hp w id n b)(h':Ext B σ hp w d n' b')(hb:b≠b'):Ext B σ (hp.take id n) w d n' b':=by
 obtain⟨p,o,a1,a2,a3,a4,a5,u⟩:=h';obtain⟨q,D,v,z,_⟩:=h;refine⟨p,o,a1,a2,a3,a4,a5,?_⟩;intro i c r t hr;simp only[Hp.take,T.get_set]at t
 by_cases hi:i=id
 ·subst hi
  have:r=q:=bC7 (hr.symm.trans v);subst this;rw[z];exact hb
 ·rw[bC1 hi]at t
  exact u i c r t hr
theorem Ext.step {r S2:Hp}{b:Nat}{n:Nw}(h:Ext B σ r w id n b){σ':Sg}{w':World}(k:HR (rest B σ r w) w σ' S2 w')(d:Sg.le σ σ'):Ext B σ' S2 w' id n b:=by
 obtain⟨p,o,a1,a2,a3,a4,a5,z⟩:=h;have hr:rest B σ r w b:= .inr ⟨(bB6.1 a3).1,fun i c q v hq=>z i c q v hq⟩
 refine⟨p,o,d _ _ a1,a2,by rw[k.kept b hr];exact a3,a4.mono d,a5,?_⟩
 intro i c q v hq u;obtain⟨C,D,A,t,_⟩:=k.live i c v;have:C=q:=bC7 (A.symm.trans hq);subst this;rw[u]at t;cases hc:P4 c with
 |true=>exact a5 (B.sub _ (t.yes hc))
 |false=>exact t.no hc hr
theorem Ext.lay {h b':Nat}{n':Nw}(h':Ext B σ hp w h n' b')(A:HR B w0 σ hp w)(r:σ id=none)(pl:Pl)(o:Obj):Ext B (σ.ext id pl) hp (w.alloc o) h n' b':=by
 obtain⟨p,C,a1,a2,a3,a4,a5,z⟩:=h';have d:=Sg.le_ext pl r;refine⟨p,C,d _ _ a1,a2,by rw[Below.heap_alloc _ _ _ (bB6.1 a3).1];exact a3,a4.mono d,a5,?_⟩
 intro i c q u hq;obtain⟨v,D,t,_⟩:=A.live i c u;have:=(d _ _ t).symm.trans hq;have:v=q:=bC7 this;subst this;exact z i c v u t
theorem br5 {nx0 : Nat} {m : Nat → Bool} : ∀ (es : List Ent) {hp : Hp}, HR B w0 σ hp w →
  (∀(j:Nat) e n,es[j]? =some e->e.nw=some n->m e.i=true-> ∃b,Ext B σ hp w (nx0+e.i) n b)->
  (∀(j j':Nat) e e' n n' b b',es[j]? =some e->es[j']? =some e'->j≠j'->e.nw=some n->e'.nw=some n'->m e.i=true->m e'.i=true->Ext B σ hp w (nx0+e.i) n b->Ext B σ hp w (nx0+e'.i) n' b'->b≠b')->
  HR B w0 σ (takes nx0 m es hp) w/\(takes nx0 m es hp).nx=hp.nx/\
  ∀d n' b',Ext B σ hp w d n' b'->(∀(j:Nat) e n b,es[j]? =some e->e.nw=some n->m e.i=true->Ext B σ hp w (nx0+e.i) n b->b≠b')->Ext B σ (takes nx0 m es hp) w d n' b':=by
 intro es
 induction es with
 |nil=>intro hp E _ _;exact⟨E,rfl,fun d n' b' h _=>h⟩
 |cons e es M=>
  intro hp E h1 h2;cases hn:e.nw with
  |none=>
   simp only[takes,hn];obtain⟨a1,a2,a3⟩:=M E (fun j e n hj=>h1 (j+1) e n (by simpa using hj)) (fun j j' e e' n n' b b' hj o r=>h2 (j+1) (j'+1) e e' n n' b b' (by simpa using hj) (by simpa using o) (by omega))
   exact⟨a1,a2,fun d n' b' hx hd=>a3 d n' b' hx (fun j e n b hj=>hd (j+1) e n b (by simpa using hj))⟩
  |some n=>
   cases hm:m e.i with
   |false=>
    simp only[takes,hn,hm,bB9];obtain⟨a1,a2,a3⟩:=M E (fun j e n hj=>h1 (j+1) e n (by simpa using hj)) (fun j j' e e' n n' b b' hj o r=>h2 (j+1) (j'+1) e e' n n' b b' (by simpa using hj) (by simpa using o) (by omega))
    exact⟨a1,a2,fun d n' b' hx hd=>a3 d n' b' hx (fun j e n b hj=>hd (j+1) e n b (by simpa using hj))⟩
   |true=>
    simp only[takes,hn,hm,bB8];obtain⟨b,hb⟩:=h1 0 e n rfl hn hm;have Y:∀t,Ext B σ hp w (nx0+e.i) n t->t=b:=by
     intro t hx;obtain⟨p,_,u,K,_⟩:=hx;obtain⟨q,_,W,X,_⟩:=hb
     grind
    have keep:∀ {d:Nat} {n':Nw} {b':Nat},Ext B σ hp w d n' b'->b≠b'->Ext B σ (hp.take (nx0+e.i) n) w d n' b':=fun hx r=>hb.take hx r
    have back:∀ {d:Nat} {n':Nw} {b' t:Nat},Ext B σ hp w d n' b'->Ext B σ (hp.take (nx0+e.i) n) w d n' t->t=b':=by
     intro d n' b' t hx hy;obtain⟨p,_,u,K,_⟩:=hx;obtain⟨q,_,W,X,_⟩:=hy
     grind
    obtain⟨a1,a2,a3⟩:=M (hp:=hp.take (nx0+e.i) n) (E.take hb)
     (fun j e' n' hj C A=>by
      obtain⟨b',z⟩:=h1 (j+1) e' n' (by simpa using hj) C A
      exact⟨b',keep z (h2 0 (j+1) e e' n n' b b' rfl (by simpa using hj) (by omega) hn C hm A hb z)⟩)
     (fun j j' v O G T V t hj o r k1 k2 k3 R N Z=>by
      obtain⟨u,J⟩:=h1 (j+1) v G (by simpa using hj) k1 k3
      obtain⟨K,U⟩:=h1 (j'+1) O T (by simpa using o) k2 R
      rw[back J N,back U Z];exact h2 (j+1) (j'+1) v O G T u K (by simpa using hj) (by simpa using o) (by omega) k1 k2 k3 R J U)
    refine⟨a1,a2,fun d n' b' hx hd=>a3 d n' b' (keep hx (hd 0 e n b rfl hn hm hb)) (fun j v G V hj k1 k3 N=>?_)⟩
    obtain⟨u,J⟩:=h1 (j+1) v G (by simpa using hj) k1 k3
    rw[back J N];exact hd (j+1) v G u (by simpa using hj) k1 k3 J
end
end Go.Xe
end PartXm13
noncomputable section PartXm14
namespace Go.Xe
open Go.RowKit
def xpre (pres:List Nat)(o:Oper):Nat:=
 o.after.toList.foldl (fun s e=>bif Region.binds .any e then(s|||2^e.on)|||pres.getD e.on 0 else s) 0
def p9 :List Oper->List Nat->List Nat
 | [],acc=>acc
 |o::os,acc=>p9 os (acc++ [xpre acc o])
def bo3 (s:Nat):Operand->Nat
 | .tmp t=>s|||2^t
 |_=>s
def aw7 (all:List Oper)(o:Oper):Nat:=
 o.op.operands.toList.foldl bo3 (match o.guard with
  |some (g,_)=>match all[g]? with
   |some p=>match p.dst with
    |some d=>2^d
    |none=>0
   |none=>0
  |none=>0)
structure Inf where
 o:Oper
 pre:Nat
 i:Nat
 lk:Nat
 wr:Bool
def aU6 (all:List Oper)(pres:List Nat):List Inf:=((all.zip pres).zipIdx).map fun x=>⟨x.1.1,x.1.2,x.2,aw7 all x.1.1,Nat.beq (c6 x.1.1.op) 3⟩
def ba7 (o:Oper)(t:Nat):Bool:=match o.dst with|some d=>Nat.beq d t|none=>false
def s1 (pres:List Nat)(x:Inf):Bool:=Nat.beq x.pre (xpre pres x.o)&&x.o.after.toList.all (fun e=> !(Region.binds .any e)||Nat.blt e.on x.i)
def s2 (x y:Inf):Bool:=
 bif Nat.beq x.i y.i then true else
  (match y.o.dst with
   |none=>true
   |some t=> !(ba7 x.o t)&&(bif x.lk.testBit t then(bif Nat.blt y.i x.i then x.pre.testBit y.i else y.pre.testBit x.i)else true))&&
  (bif x.wr&&y.wr&&Nat.blt y.i x.i then x.pre.testBit y.i else true)
def stat (all:List Oper)(pres:List Nat):Bool:=
 Nat.beq pres.length all.length&&(aU6 all pres).all (s1 pres)&&(aU6 all pres).all (fun x=>(aU6 all pres).all (s2 x))
def isW (e:Ent):Bool:=Nat.beq (c6 e.o.op) 3
def P7 (es:List Ent)(e:Ent)(k:Nat):Bool:=
 es.all fun y=>bif isW y then(bif Nat.blt y.i k then !(y.pre.testBit e.i)else !(e.pre.testBit y.i))else true
def own (es:List Ent)(e:Ent)(k:Nat):Bool:=
 es.all fun y=>bif isW y then(Nat.blt y.i k==Nat.blt y.i e.i)else true
def an0 (P:Program)(es:List Ent)(e:Ent)(k:Nat)(S:Hp):Bool:=
 bif own es e k then true else bif P7 es e k then
  (match xrd P e.tm S e.o.op with
   |some v=>veq 1000 v e.r
   |none=>false)
 else true
def dyn (P:Program)(S0:Hp)(es:List Ent):Bool:=
 es.all fun e=>bif e.wt&&Nat.beq (c6 e.o.op) 1 then an0 P es e 0 S0&&es.all (fun x=>bif isW x then an0 P es e (x.i+1) x.S2 else true)else true
def F8 (P:Program):F9:=fun call nt all tm hp=>
 bif stat all (p9 all [])then
  match xgo P call nt all hp.nx (all.zip (p9 all [])) 0 tm ⟨hp.m,hp.nx+all.length⟩ 0 []with
  |some out=>bif dyn P ⟨hp.m,hp.nx+all.length⟩ out.es then some (out.tm,takes hp.nx (ab0 out.I) out.es out.S)else none
  |none=>none
 else none
theorem aw1 {α : Type} (f : α → Nat → Bool) (g : Nat → α → Nat) ( d : ∀ s x j, (g s x).testBit j = true ↔ (s.testBit j = true ∨ f x j = true)) : ∀ (l : List α) (s : Nat) (j : Nat),
  (l.foldl g s).testBit j=true↔(s.testBit j=true\/ ∃x∈l,f x j=true)
 | [],s,j=>by simp
 |x::l,s,j=>by
  rw[List.foldl_cons,aw1 f g d l (g s x) j,d]
  grind
theorem bj6 {pres:List Nat}{o:Oper}{j:Nat}(h:(xpre pres o).testBit j=true):∃e∈o.after.toList,Region.binds .any e=true/\(e.on=j\/(pres.getD e.on 0).testBit j=true):=by
 unfold xpre at h;rw[aw1 (fun(e:Edge) j=>Region.binds .any e&&(decide (e.on=j)|| (pres.getD e.on 0).testBit j))]at h
 ·grind
 ·grind
theorem aw8 {all : List Oper} {o : Oper} {t : Nat} : (aw7 all o).testBit t = true ↔
  ((∃g d p,o.guard=some (g,d)/\all[g]? =some p/\p.dst=some t)\/Operand.tmp t∈o.op.operands.toList):=by
 unfold aw7;rw[aw1 (fun(x:Operand) j=>match x with| .tmp t=>decide (t=j)|_=>false)]
 ·constructor
  ·rintro (h| ⟨x,hx,h⟩)
   ·grind
   ·grind
  ·grind
 ·intro s x j
  cases x<;>simp[bo3,Nat.testBit_or,Nat.testBit_two_pow]
def lst (L:Array Bool)(j:Nat):Prop:=L.getD j false=true
section
variable {P :Program}{B:BS}{w0:World}{call:c8}{nt:Nat}{ops:Array Oper}{pres:List Nat}{nx0:Nat}{l:List Ent}{tm0 tmN:T Value}{S0 SN:Hp}{IN:Nat}
structure Fix (P:Program)(call:c8)(nt:Nat)(ops:Array Oper)(pres:List Nat)(nx0:Nat)(l:List Ent)(tm0 tmN:T Value)(S0 SN:Hp)(IN:Nat):Prop where
 stat:stat ops.toList pres=true
 dyn:dyn P S0 l.reverse=true
 map:l.map (fun e=>(e.o,e.pre))=ops.toList.zip pres
 chain:E0 P call nt ops.toList nx0 tmN SN IN [] l tm0 S0 0
variable (F :Fix P call nt ops pres nx0 l tm0 tmN S0 SN IN)
include F
theorem Fix.plen :pres.length=ops.size:=by
 have:=F.stat;simp only[Xe.stat,bA2]at this
 simp_all
theorem Fix.len :l.length=ops.size:=by
 have:=congrArg List.length F.map
 simpa [F.plen]using this
variable {j:Nat}
theorem Fix.ent {o:Oper}(h:ops[j]? =some o):∃e,l[j]? =some e/\e.o=o:=by
 have hj:j<ops.size:=(bB6.1 h).1;have d:j<l.length:=by rw[F.len];exact hj
 refine⟨l[j],by simp[d],?_⟩
 have:=congrArg (fun x=>x[j]?) F.map
 grind
variable {e:Ent}
theorem Fix.at_ (h:l[j]? =some e):ops[j]? =some e.o/\e.pre=pres.getD j 0/\e.i=j:=by
 have hm:=congrArg (fun x=>x[j]?) F.map
 simp only[bF1,h,bE6]at hm;have:=List.getElem?_zip_eq_some.1 hm.symm;refine⟨by simpa using this.1,by simp[List.getD,this.2],?_⟩
 have:=(F.chain.get h).1
 grind
theorem Fix.inf (h:l[j]? =some e):(⟨e.o,e.pre,j,aw7 ops.toList e.o,Nat.beq (c6 e.o.op) 3⟩:Inf)∈aU6 ops.toList pres:=by
 have hm:=congrArg (fun x=>x[j]?) F.map
 simp only[bF1,h,bE6]at hm;unfold aU6;refine bI1.2 ⟨((e.o,e.pre),j),?_,rfl⟩
 grind
theorem Fix.p1   (h : l[j]? = some e) : (∀ k, e.pre.testBit k = true → ∃  d ∈ e.o.after.toList, Region.binds .any  d = true ∧ ( d.on = k ∨ (pres.getD  d.on 0).testBit k = true)) ∧
  ∀d∈e.o.after.toList,Region.binds .any d=true->d.on<j:=by
 have hs:=F.stat;simp only[Xe.stat,bA2,bD1]at hs;have:=hs.1.2 _ (F.inf h);simp only[s1,bA2,bD1,bH6,bE7]at this;have he:=bA6 this.1;refine⟨fun k hk=>bj6 (by rw[<-he];exact hk),fun d p hb=>?_⟩
 rcases this.2 d p with h1|h1
 ·grind
 ·simp_all
variable {i:Nat}
theorem Fix.p2  {e':Ent} (hi : l[i]? = some e) (hj : l[j]? = some e') (  d : i ≠ j) : (∀ t, e'.o.dst = some t → e.o.dst ≠ some t) ∧
  (∀t,e'.o.dst=some t->(aw7 ops.toList e.o).testBit t=true->(j<i->e.pre.testBit j=true)/\(i<j->e'.pre.testBit i=true))/\
  (c6 e.o.op=3->c6 e'.o.op=3->j<i->e.pre.testBit j=true):=by
 have hs:=F.stat;simp only[Xe.stat,bA2,bD1]at hs;have:=hs.2 _ (F.inf hi) _ (F.inf hj);simp only[s2]at this;rw[n8 d,bB9,bA2]at this;obtain⟨h1,h2⟩:=this;refine⟨fun t ht hd=>?_,fun t ht hl=>?_,fun k1 k2 hlt=>?_⟩
 ·simp only[ht,bA2,bE7]at h1
  have:=h1.1;simp only[ba7,hd]at this
  simp_all
 ·simp only[ht,bA2,hl,bB8]at h1
  have h3:=h1.2
  constructor
  ·intro hlt
   simp_all
  ·intro hlt
   have:Nat.blt j i=false:=by
    cases hb:Nat.blt j i
    ·rfl
    ·simp_all;omega
   grind
 ·rw[l8 k1,l8 k2,show Nat.blt j i=true from bA8 hlt]at h2
  grind
omit F
structure Inv (B:BS)(w0:World)(P:Program)(call:c8)(nt:Nat)(ops:Array Oper)(nx0:Nat)(l:List Ent)(tm0 tmN:T Value)(S0 SN:Hp)(IN:Nat)(σ0:Sg)(D:List Deferred)(L:Array Bool)(a:Act)(w:World)(σ:Sg)(k:Nat)(S:Hp)(I:Nat):Prop where
 size:L.size=ops.size
 down:∀j e,l[j]? =some e->lst L j-> ∀m,e.pre.testBit m=true->lst L m
 defers:a.defers=D
 tsz:a.tmps.size=nt
 tin:∀(j:Nat) e t,l[j]? =some e->lst L j->e.o.dst=some t->VR σ e.r (a.tmps.getD t undef)
 tout:∀t,(∀(j:Nat) e,l[j]? =some e->lst L j->e.o.dst≠some t)->VR σ ((tm0.get t).getD undef) (a.tmps.getD t undef)
 cut:∃tmk,E0 P call nt ops.toList nx0 tmN SN IN (l.take k).reverse (l.drop k) tmk S I
 norm:(k=0/\S=S0)\/ ∃e,0<k/\l[k-1]? =some e/\c6 e.o.op=3/\S=e.S2
 wr:∀(j:Nat) e,l[j]? =some e->c6 e.o.op=3->(lst L j↔j<k)
 hr:HR B w0 σ S w
 gr:Sg.gr nx0 S.nx σ0 σ
 room:nx0+ops.size<=S.nx
 none:∀(j:Nat) e n,l[j]? =some e->e.nw=some n-> ¬lst L j->σ (nx0+j)=none
 ext:∀(j:Nat) e n,l[j]? =some e->e.nw=some n->lst L j->I.testBit j=false-> ∃b,Ext B σ S w (nx0+j) n b
 apart:∀(j j':Nat) e e' n n' b b',l[j]? =some e->l[j']? =some e'->e.nw=some n->e'.nw=some n'->j≠j'->lst L j->lst L j'->I.testBit j=false->I.testBit j'=false->
  Ext B σ S w (nx0+j) n b->Ext B σ S w (nx0+j') n' b'->b≠b'
variable {L:Array Bool}
theorem n6 (hi:i<L.size):lst (L.setIfInBounds i true) j↔(lst L j\/j=i):=by
 unfold lst
 by_cases h:j=i
 ·simp_all
 ·rw[getD_set_ne false (Ne.symm h)];simp[h]
theorem aA1 (h:L.getD i true=false):i<L.size/\ ¬lst L i:=by
 have hi:i<L.size:=by grind
 refine⟨hi,fun hl=>?_⟩
 unfold lst at hl
 grind
theorem aD8 {k:Nat} {tmk : T Value} {S : Hp} {I : Nat} (hc : E0 P call nt ops.toList nx0 tmN SN IN (l.take k).reverse (l.drop k) tmk S I)  (he : l[i]? = some e) (hk : k ≤ i)
  (hn:∀(j:Nat) e',l[j]? =some e'->k<=j->j<i->c6 e'.o.op≠3):e.S=S/\e.I=I:=by
 have h1:(l.drop k)[i-k]? =some e:=by grind
 refine(hc.upTo h1).still fun e' hm=>?_
 obtain⟨m,d⟩:=bF5.1 hm
 grind
include F
theorem Fix.seen {σ0 : Sg} {D : List Deferred}  {a : Act} {w : World} {σ : Sg} {k : Nat} {S : Hp} {I : Nat} (V : Inv B w0 P call nt ops nx0 l tm0 tmN S0 SN IN σ0 D L a w σ k S I)
    (he:l[i]? =some e) (h:∀m,e.pre.testBit m=true->lst L m) (hi:¬lst L i) {t:Nat} (ht:(aw7 ops.toList e.o).testBit t=true):
  VR σ ((e.tm.get t).getD undef) (a.tmps.getD t undef):=by
 have hp:=F.chain.upTo he
 by_cases hx:∃(j:Nat) (e':Ent),j<i/\l[j]? =some e'/\e'.o.dst=some t
 ·obtain⟨j,e',hlt,hj,hd⟩:=hx
  have d:lst L j:=h j (((F.p2 he hj (by omega)).2.1 t hd ht).1 hlt)
  have:=hp.tm_some (k:=j) (e:=e') (t:=t) (by rw[bD4,bC3 hlt];exact hj) hd (fun m z hm r p=>by
   rw[bD4]at hm;split at hm
   ·exact(F.p2 hm hj r).1 t hd p
   ·exact absurd hm (by simp))
  rw[this];exact V.tin j e' t hj d hd
 ·have   u : ∀ e' ∈ l.take i, e'.o.dst ≠ some t := by
   intro e' hm hd;obtain⟨m,v⟩:=bF5.1 hm
   grind
  rw[hp.tm_none u];refine V.tout t fun j e' hj d hd=>?_
  by_cases q:j=i
  ·grind
  ·rcases Nat.lt_or_ge j i with hlt|hge
   ·grind
   ·exact hi (V.down j e' hj d i (((F.p2 he hj (Ne.symm q)).2.1 t hd ht).2 (by omega)))
end
theorem aT7 {σ : Sg} {tm : T Value} {tmps : Array Value} (ops : Array Oper) (o : Oper)
  (h:∀g q p d,o.guard=some (g,q)->ops.toList[g]? =some p->p.dst=some d->VR σ ((tm.get d).getD undef) (tmps.getD d undef)):
  Region.wanted o (yielded ops tmps)=f8 ops.toList tm o:=by
 unfold Region.wanted f8;cases r:o.guard with
 |none=>rfl
 |some u=>
  obtain⟨j,q⟩:=u;simp only;have hy:yielded ops tmps j=X4 ops.toList tm j:=by
   unfold yielded X4;rw[Array.getElem?_toList];cases hj:ops[j]? with
   |none=>rfl
   |some p=>
    simp only[Option.bind_some];cases hd:p.dst with
    |none=>rfl
    |some d=>
     simp only[Option.bind_some];have:=h j q p d r (by simpa using hj) hd
     by_cases hlt:d<tmps.size
     ·have e:tmps[d]? =some tmps[d]:=by simp[hlt]
      have t:tmps.getD d undef=tmps[d]:=by simp_all
      rw[t]at this;rw[e];cases r:tm.get d with
      |none=>
       rw[r,Option.getD_none]at this;generalize tmps[d]=x at this;cases this;rfl
      |some v=>
       rw[r,bE3]at this;generalize tmps[d]=x at this;cases this<;>rfl
     ·have e:tmps[d]? =none:=Array.getElem?_eq_none (bH7 hlt)
      have t:tmps.getD d undef=undef:=by grind
      rw[t]at this;rw[e];cases r:tm.get d with
      |none=>rfl
      |some v=>
       rw[r,bE3]at this;unfold undef at this;cases this;rfl
  grind
end Go.Xe
end PartXm14
noncomputable section PartXm15
namespace Go.Xe
open Go.RowKit
section
variable {P :Program}{B:BS}{w0:World}{call:c8}{nt:Nat}{ops:Array Oper}{pres:List Nat}{nx0:Nat}{l:List Ent}{tm0 tmN:T Value}{S0 SN:Hp}{IN:Nat}
variable (F :Fix P call nt ops pres nx0 l tm0 tmN S0 SN IN)
include F
variable {i:Nat}
theorem Fix.before {j:Nat}{e:Ent}(hi:i<=l.length)(h:((l.take i).reverse)[j]? =some e):j<i/\l[i-1-j]? =some e/\e.i=i-1-j:=by
 have d:(l.take i).length=i:=by grind
 have hj:j<i:=by grind
 rw[List.getElem?_reverse (by rw[d];exact hj),d,bD4,bC3 (by omega)]at h
 exact⟨hj,h,(F.at_ h).2.2⟩
variable {σ σ0:Sg}{D:List Deferred}{L:Array Bool}{a:Act}{w:World}{I k:Nat}{S:Hp}
theorem Fix.takes          (V : Inv B w0 P call nt ops nx0 l tm0 tmN S0 SN IN σ0 D L a w σ k S I)
   (hi:i<=l.length) (m:Nat->Bool) (hm:∀j,j<i->m j=true->lst L j/\I.testBit j=false):
  HR B w0 σ (Xe.takes nx0 m (l.take i).reverse S) w/\(Xe.takes nx0 m (l.take i).reverse S).nx=S.nx/\
  ∀(j:Nat) e n b,l[j]? =some e->e.nw=some n->lst L j->I.testBit j=false->(j<i->m j=false)->Ext B σ S w (nx0+j) n b->Ext B σ (Xe.takes nx0 m (l.take i).reverse S) w (nx0+j) n b:=by
 have H:=br5 (B:=B) (w0:=w0) (σ:=σ) (w:=w) (nx0:=nx0) (m:=m) (l.take i).reverse V.hr
  (fun j e n hj hn o=>by
   obtain⟨h1,h2,h3⟩:=F.before hi hj;obtain⟨h4,h5⟩:=hm _ (by omega:i-1-j<i) (h3▸o)
   rw[h3];exact V.ext _ e n h2 hn h4 h5)
  (fun j j' e e' n n' b b' hj h K hn p o d C E=>by
   obtain⟨h1,h2,h3⟩:=F.before hi hj;obtain⟨G,t,q⟩:=F.before hi h;obtain⟨h4,h5⟩:=hm _ (by omega:i-1-j<i) (h3▸o)
   obtain⟨u,v⟩:=hm _ (by omega:i-1-j'<i) (q▸d)
   rw[h3]at C;rw[q]at E;exact V.apart _ _ e e' n n' b b' h2 t hn p (by omega) h4 u h5 v C E)
 refine⟨H.1,H.2.1,fun j e n b hj hn A z J hx=>H.2.2 _ n b hx fun j' e' n' b' h p d r=>?_⟩
 obtain⟨G,t,q⟩:=F.before hi h;obtain⟨u,v⟩:=hm _ (by omega:i-1-j'<i) (q▸d)
 rw[q]at r;refine V.apart _ _ e' e n' n b' b t hj p hn ?_ u A v z r hx
 grind
theorem Fix.read          (V : Inv B w0 P call nt ops nx0 l tm0 tmN S0 SN IN σ0 D L a w σ k S I)
   {e:Ent} (he:l[i]? =some e) (C:∀m,e.pre.testBit m=true->lst L m) (hi:¬lst L i) (X:e.wt=true) (K:c6 e.o.op=1):xrd P e.tm S e.o.op=some e.r:=by
 have z:e.i=i:=(F.at_ he).2.2;have d:∀ {j:Nat} {y:Ent},l[j]? =some y->y∈l.reverse:=fun h=>List.mem_reverse.2 (bB1 h)
 have A:∀ {y:Ent},y∈l.reverse-> ∃j,l[j]? =some y/\y.i=j:=fun h=>by
  obtain⟨j,hj⟩:=bF5.1 (List.mem_reverse.1 h);exact⟨j,hj,(F.at_ hj).2.2⟩
 have    t : P7 l.reverse e k = true := by
  unfold P7;rw[bD1];intro y hy;obtain⟨j,hj,R⟩:=A hy;cases q:isW y with
  |false=>rfl
  | true =>
   have h3:c6 y.o.op=3:=bA6 q;rw[bB8];rw[R,z]
   by_cases hlt:j<k
   ·rw[show Nat.blt j k=true from bA8 hlt,bB8]
    have N:=(V.wr j y hj h3).2 hlt;cases hb:y.pre.testBit i with
    |false=>rfl
    |true=>exact absurd (V.down j y hj N i hb) hi
   ·have hb : Nat.blt j k = false := by
     cases hb:Nat.blt j k
     ·rfl
     ·simp_all;omega
    rw[hb,bB9];cases J:e.pre.testBit j with
    |false=>rfl
    |true=>exact absurd ((V.wr j y hj h3).1 (C j J)) hlt
 obtain⟨tm',S',I',hs,U⟩:=(F.chain.get he).2;have hr:=hs.k1 X K;have G:an0 P l.reverse e k S=true->xrd P e.tm S e.o.op=some e.r:=by
  intro hl;unfold an0 at hl;cases E:own l.reverse e k with
  |true=>
   have O:∀(j:Nat) y,l[j]? =some y->c6 y.o.op=3->(j<k↔j<i):=by
    intro j y hj h3;unfold own at E;rw[bD1]at E;have:=E y (d hj);have q:isW y=true:=l8 h3;rw[q,bB8,(F.at_ hj).2.2,z]at this
    constructor
    ·intro hlt
     rw[show Nat.blt j k=true from bA8 hlt]at this
     simp_all
    ·intro hlt
     rw[show Nat.blt j i=true from bA8 hlt]at this
     simp_all
   have M:k<=i:=by
    rcases V.norm with⟨h0,_⟩| ⟨y,h0,hy,h3,_⟩
    ·omega
    ·grind
   obtain⟨tmk,u⟩:=V.cut;have T:=(aD8 u he M (fun j y hj h1 h2 h3=>by have:=(O j y hj h3).2 h2;omega)).1
   grind
  |false=>
   rw[E,bB9,t,bB8]at hl;split at hl
   ·rename_i v W
    rw[W,ao5 _ _ _ hl]
   ·cases hl
 have hd:=F.dyn;unfold Xe.dyn at hd;rw[bD1]at hd;have h0:=hd e (d he);have p:(e.wt&&Nat.beq (c6 e.o.op) 1)=true:=by simp_all
 rw[p,bB8,bA2,bD1]at h0
 rcases V.norm with⟨hk,T⟩| ⟨y,hk,hy,h3,T⟩
 ·grind
 ·have:=h0.2 y (d hy)
  have q:isW y=true:=l8 h3;rw[q,bB8,(F.at_ hy).2.2,show k-1+1=k by omega]at this
  grind
set_option maxHeartbeats 1000000 in
theorem Fix.step          (   ad : B5 P call) (V : Inv B w0 P call nt ops nx0 l tm0 tmN S0 SN IN σ0 D L a w σ k S I)
   (hr:i∈Region.ready .any ops L) (Q:Exit->Act->World->Prop) (r:Option Nat):
  wpOpIn (RF r) 0 P ops Q i (fun a' w'=>∃σ' k' S' I',Inv B w0 P call nt ops nx0 l tm0 tmN S0 SN IN σ0 D (L.setIfInBounds i true) a' w' σ' k' S' I') a w:=by
 obtain⟨ch,o,ho,bc⟩:=mem_ready.1 hr;obtain⟨J,ao⟩:=aA1 ch;obtain⟨e,he,G⟩:=F.ent ho;have ca:e.i=i:=(F.at_ he).2.2;have ay:i<l.length:=(bA4.1 he).1;have aa:∀m,e.pre.testBit m=true->lst L m:=by
  intro m hm;obtain⟨ed,bh,hb,h⟩:=(F.p1 he).1 m hm;have cf:lst L ed.on:=bc ed (by rw[<-G];simpa using bh) hb
  rcases h with h|h
  ·grind
  ·have hlt:=(F.p1 he).2 ed bh hb
   have bm:ed.on<l.length:=by omega
   obtain⟨e',he'⟩:∃e',l[ed.on]? =some e':=⟨l[ed.on],by simp[bm]⟩
   exact V.down ed.on e' he' cf m (by rw[(F.at_ he').2.1];exact h)
 obtain⟨tm',S',I',hs,bz⟩:=(F.chain.get he).2;simp only[bI5]at hs bz;have au:∃tmk,E0 P call nt ops.toList nx0 tmN SN IN (l.take (i+1)).reverse (l.drop (i+1)) tmk S' I':=by
  refine⟨tm',?_⟩;have:e::(l.take i).reverse=(l.take (i+1)).reverse:=by
   rw[List.take_succ_eq_append_getElem ay,List.reverse_append]
   grind
  grind
 have ap:∀t,(aw7 ops.toList o).testBit t=true->VR σ ((e.tm.get t).getD undef) (a.tmps.getD t undef):=fun t ht=>F.seen V he aa ao (by rw[G];exact ht)
 have aq:∀x∈o.op.operands,∀v,a8 e.tm x=some v->VR σ v (a.eval x):=by
  intro x hx v hv;cases x with
  |tmp t=>
   simp only[a8,bA1]at hv;subst hv;exact ap t (aw8.2 (.inr (by simpa using hx)))
  |const c=>
   simp only[a8]at hv;cases hc:cst c with
   |false=>grind
   |true=>simp[hc]at hv;subst hv;exact M5 σ hc
  |global g=>simp[a8]at hv
  |func f=>
   simp only[a8,bA1]at hv;subst hv;exact .func _ _ _ _ _ rfl (fun i x y h _=>by simp at h) rfl (fun i x y h _=>by simp at h)
 have bb:Region.wanted o (yielded ops a.tmps)=e.wt:=by
  rw[hs.wt,G];exact aT7 ops o fun g bu p d hg hp hd=>ap d (aw8.2 (.inl ⟨g,bu,p,hg,hp,hd⟩))
 have bg:∀(j:Nat) e' t,l[j]? =some e'->j≠i->e'.o.dst=some t->o.dst≠some t:=fun j e' t hj Z ht=>by rw[<-G];exact(F.p2 he hj (Ne.symm Z)).1 t ht
 have build : ∀ (u : Value) (σ' : Sg) (w' : World) (k' : Nat) (S2 : Hp) (I2 : Nat), Sg.le σ σ' → VR σ' e.r u →
   (∃tmk,E0 P call nt ops.toList nx0 tmN SN IN (l.take k').reverse (l.drop k') tmk S2 I2)->
   ((k'=0/\S2=S0)\/ ∃e,0<k'/\l[k'-1]? =some e/\c6 e.o.op=3/\S2=e.S2)->
   (∀(j:Nat) e,l[j]? =some e->c6 e.o.op=3->(lst (L.setIfInBounds i true) j↔j<k'))->
   HR B w0 σ' S2 w'->Sg.gr nx0 S2.nx σ0 σ'->nx0+ops.size<=S2.nx->
   (∀(j:Nat) e n,l[j]? =some e->e.nw=some n-> ¬lst (L.setIfInBounds i true) j->σ' (nx0+j)=none)->
   (∀(j:Nat) e n,l[j]? =some e->e.nw=some n->lst (L.setIfInBounds i true) j->I2.testBit j=false-> ∃b,Ext B σ' S2 w' (nx0+j) n b)->
   (∀(j j':Nat) e e' n n' b b',l[j]? =some e->l[j']? =some e'->e.nw=some n->e'.nw=some n'->j≠j'->lst (L.setIfInBounds i true) j->lst (L.setIfInBounds i true) j'->I2.testBit j=false->I2.testBit j'=false->
    Ext B σ' S2 w' (nx0+j) n b->Ext B σ' S2 w' (nx0+j') n' b'->b≠b')->
   Inv B w0 P call nt ops nx0 l tm0 tmN S0 SN IN σ0 D (L.setIfInBounds i true) (a.put o.dst u) w' σ' k' S2 I2:=by
  intro u σ' w' k' S2 I2 ai hv h1 h2 h3 h4 h5 h6 h7 h8 h9;have av:∀t,o.dst≠some t->(a.put o.dst u).tmps.getD t undef=a.tmps.getD t undef:=by
   intro t ht;cases hd:o.dst with
   |none=>rfl
   |some d=>
    have Z:d≠t:=fun h=>ht (by rw[hd,h])
    simp[Act.put,bJ3 Z]
  have az:∀t,o.dst=some t->(a.put o.dst u).tmps.getD t undef=u:=by
   intro t ht;have hb:l5 nt o.dst=true:=by rw[<-G];exact hs.dst
   rw[ht]at hb⊢;have hlt:t<a.tmps.size:=by rw[V.tsz];exact bA5 hb
   simp[Act.put,hlt]
  refine⟨by simpa using V.size,?_,by rw[J8];exact V.defers,?_,?_,?_,h1,h2,h3,h4,h5,h6,h7,h8,h9⟩
  ·intro j e' hj A m hm
   rw[n6 J]at A⊢
   rcases A with A|rfl
   ·exact .inl (V.down j e' hj A m hm)
   ·have:e'=e:=bC7 (hj.symm.trans he)
    subst this;exact .inl (aa m hm)
  ·cases hd:o.dst<;>simp[Act.put,V.tsz]
  ·intro j e' t hj A ht
   rw[n6 J]at A
   by_cases E:j=i
   ·subst E
    have:e'=e:=bC7 (hj.symm.trans he);subst this;rw[az t (by rw[<-G];exact ht)]
    exact hv
   ·rw[av t (bg j e' t hj E ht)]
    exact(V.tin j e' t hj (A.resolve_right E) ht).mono ai
  ·intro t bl
   have ce:o.dst≠some t:=by rw[<-G];exact bl i e he ((n6 J).2 (.inr rfl))
   rw[av t ce];exact(V.tout t fun j e' hj A=>bl j e' hj ((n6 J).2 (.inl A))).mono ai
 have   al : ∀ (u : Value) (σ' : Sg) (w' : World), c6 o.op ≠ 3 → (e.nw = none) → Sg.gr S.nx S.nx σ σ' → VR σ' e.r u → HR (rest B σ S w) w σ' S w' →
   ∃σ' k' S' I',Inv B w0 P call nt ops nx0 l tm0 tmN S0 SN IN σ0 D (L.setIfInBounds i true) (a.put o.dst u) w' σ' k' S' I':=by
  intro u σ' w' hk R O hv bi;refine⟨σ',k,S,I,build u σ' w' k S I O.le hv V.cut V.norm (fun j e' hj h3=>?_) (V.hr.back bi) (Sg.gr_trans V.gr O) V.room (fun j e' n hj hn A=>?_) (fun j e' n hj hn A hI=>?_) (fun j j' e1 e2 n1 n2 b1 b2 hj T M N Z X Y U W x1 x2=>?_)⟩
  ·rw[n6 J,<-V.wr j e' hj h3]
   constructor
   ·rintro (h|rfl)
    ·exact h
    ·have:e'=e:=bC7 (hj.symm.trans he)
     subst this;exact absurd h3 (by rw[G];exact hk)
   ·exact .inl
  ·have bk:¬lst L j:=fun h=>A ((n6 J).2 (.inl h))
   have cd:j<l.length:=(bA4.1 hj).1;rw[O.low _ (by have:=V.room;have:=F.len;omega)]
   exact V.none j e' n hj hn bk
  ·have E:j≠i:=by rintro rfl;rw[bC7 (hj.symm.trans he),R]at hn;cases hn
   rw[n6 J]at A;obtain⟨b,hb⟩:=V.ext j e' n hj hn (A.resolve_right E) hI;exact⟨b,hb.step bi O.le⟩
  ·have E:j≠i:=by rintro rfl;rw[bC7 (hj.symm.trans he),R]at M;cases M
   have K:j'≠i:=by rintro rfl;rw[bC7 (T.symm.trans he),R]at N;cases N
   rw[n6 J]at X Y;obtain⟨c1,y1⟩:=V.ext j e1 n1 hj M (X.resolve_right E) U;obtain⟨c2,y2⟩:=V.ext j' e2 n2 T N (Y.resolve_right K) W;have ab:∀ {id:Nat} {n:Nw} {b c:Nat},Ext B σ S w id n c->Ext B σ' S w' id n b->b=c:=by
    intro id n b c hx hy;obtain⟨p,_,p1,p2,_⟩:=hx;obtain⟨q,_,q1,q2,_⟩:=hy;have:=(O.le _ _ p1).symm.trans q1;have:p=q:=bC7 this;rw[<-p2,<-q2,this]
   rw[ab y1 x1,ab y2 x2];exact V.apart j j' e1 e2 n1 n2 c1 c2 hj T M N Z (X.resolve_right E) (Y.resolve_right K) U W y1 y2
 have bt:c6 o.op=3->e.S=S/\e.I=I/\k<=i/\ ∀(j:Nat) e',l[j]? =some e'->c6 e'.o.op=3->(lst (L.setIfInBounds i true) j↔j<i+1):=by
  intro h3;have ac:c6 e.o.op=3:=by rw[G];exact h3
  have ar:k<=i:=by
   rcases Nat.lt_or_ge i k with h|h
   ·exact absurd ((V.wr i e he ac).2 h) ao
   ·exact h
  obtain⟨tmk,be⟩:=V.cut;have hlt:∀(j:Nat) e',l[j]? =some e'->c6 e'.o.op=3->j<i->lst L j:=fun j e' hj k3 hlt=>aa j ((F.p2 he hj (by omega)).2.2 ac k3 hlt)
  have bq:=aD8 be he ar (fun j e' hj h1 h2 k3=>by have:=(V.wr j e' hj k3).1 (hlt j e' hj k3 h2);omega)
  refine⟨bq.1,bq.2,ar,fun j e' hj k3=>?_⟩
  rw[n6 J]
  constructor
  ·rintro (h|rfl)
   ·rcases Nat.lt_or_ge i j with h'|h'
    ·exact absurd (V.down j e' hj h i ((F.p2 hj he (by omega)).2.2 k3 ac h')) ao
    ·omega
   ·omega
  ·intro h
   by_cases E:j=i
   ·exact .inr E
   ·exact .inl (hlt j e' hj k3 (by omega))
 unfold wpOpIn;simp only[ho];rw[bb];cases ak:e.wt with
 |false=>
  rw[bC1 (by simp)]
  refine⟨fun _ _=>trivial,?_⟩
  obtain⟨bn,R⟩:=hs.un ak
  by_cases h3:c6 o.op=3
  ·obtain⟨e1,e2,ar,ba⟩:=bt h3
   obtain⟨l1,l2⟩:=hs.low (.inl ak);have ac:c6 e.o.op=3:=by rw[G];exact h3
   refine⟨σ,i+1,S',I',build undef σ w (i+1) S' I' (Sg.le_refl σ) (by rw[bn];exact VR.undef σ) au (.inr ⟨e,by omega,he,ac,hs.S2.symm⟩) ba
    (by rw[l1,e1];exact V.hr) (by rw[l1,e1];exact V.gr) (by rw[l1,e1];exact V.room) (fun j e' n hj hn A=>?_) (fun j e' n hj hn A hI=>?_) (fun j j' f1 f2 n1 n2 b1 b2 hj T M N Z X Y U W x1 x2=>?_)⟩
   ·exact V.none j e' n hj hn (fun h=>A ((n6 J).2 (.inl h)))
   ·have E:j≠i:=by rintro rfl;rw[bC7 (hj.symm.trans he),R]at hn;cases hn
    rw[n6 J]at A;rw[l1,e1];rw[l2,e2]at hI;exact V.ext j e' n hj hn (A.resolve_right E) hI
   ·have E:j≠i:=by rintro rfl;rw[bC7 (hj.symm.trans he),R]at M;cases M
    have K:j'≠i:=by rintro rfl;rw[bC7 (T.symm.trans he),R]at N;cases N
    rw[n6 J]at X Y;rw[l1,e1]at x1 x2;rw[l2,e2]at U W;exact V.apart j j' f1 f2 n1 n2 b1 b2 hj T M N Z (X.resolve_right E) (Y.resolve_right K) U W x1 x2
  ·exact al undef σ w h3 R (Sg.gr_refl _ σ) (by rw[bn];exact VR.undef σ) V.hr.max
 | true =>
  rw[bC3 rfl]
  by_cases h0:c6 o.op=0
  ·have hx:=hs.k0 ak (by rw[G];exact h0) S
   rw[G]at hx;exact U3 ad hx aq V.hr.max _ Q (fun σ' u w' O hv aj=>al u σ' w' (by omega) (hs.nw (by rw[G];omega)) O hv aj) r
  by_cases h1:c6 o.op=1
  ·have hx:=bw6 (call:=call) (by rw[G];exact h1) (F.read V he aa ao ak (by rw[G];exact h1))
   rw[G]at hx;exact U3 ad hx aq V.hr.max _ Q (fun σ' u w' O hv aj=>al u σ' w' (by omega) (hs.nw (by rw[G];omega)) O hv aj) r
  by_cases h2:c6 o.op=2
  ·obtain ⟨n, hx,  cg,   R⟩ := hs.k2  ak (by rw [  G]; exact h2)
   rw[G]at hx;obtain⟨sm,cb,bj,ob,siz,z,bw,bp⟩:=aH1 (σ:=σ) hx aq;have ax:σ (nx0+i)=none:=V.none i e n he R ao;have hlt:nx0+i<S.nx:=by have:=V.room;have:=F.len;omega
   obtain⟨X,Y⟩:=V.hr.lay ax hlt n (p:=⟨w.heap.size,0,siz,z⟩) rfl (bw _);have ai:=Sg.le_ext (σ:=σ) (i:=nx0+i) ⟨w.heap.size,0,siz,z⟩ ax;refine d5 (fun c hc=>by rw[hc]at h2;cases h2) ?_
   unfold Oper.wp;rw[cb,bD0,bp w,bC6,bD5,bJ2];refine⟨_,k,S,I,build _ _ _ k S I ai ?_ V.cut V.norm (fun j e' hj h3=>?_) X ⟨Sg.le_trans V.gr.le ai,fun j hj=>(Sg.ext_other _ _ _ (by omega)).trans (V.gr.low j hj),V.gr.nx⟩ V.room (fun j e' n' hj hn A=>?_) (fun j e' n' hj hn A hI=>?_)
    (fun j j' f1 f2 n1 n2 b1 b2 hj T M N Z ae ah U W x1 x2=>?_)⟩
   ·rw[cg,ca]
    exact Nw.val_VR bj _ _ _ _
   ·rw[n6 J,<-V.wr j e' hj h3]
    constructor
    ·rintro (h|rfl)
     ·exact h
     ·have:e'=e:=bC7 (hj.symm.trans he)
      subst this;rw[G]at h3;omega
    ·exact .inl
   ·have E:j≠i:=by rintro rfl;exact A ((n6 J).2 (.inr rfl))
    rw[Sg.ext_other _ _ _ (by omega)]
    exact V.none j e' n' hj hn (fun h=>A ((n6 J).2 (.inl h)))
   ·by_cases E:j=i
    ·subst E
     have:e'=e:=bC7 (hj.symm.trans he);subst this;have:n'=n:=bC7 (hn.symm.trans R);subst this;exact⟨_,Y⟩
    ·rw[n6 J]at A
     obtain⟨b,hb⟩:=V.ext j e' n' hj hn (A.resolve_right E) hI;exact⟨b,hb.lay V.hr ax _ _⟩
   ·
    have old : ∀ (j : Nat) (f : Ent) (n' : Nw) (b : Nat), l[j]? = some f → f.nw = some n' → j ≠ i → lst (L.setIfInBounds i true) j → I.testBit j = false →
      Ext B (σ.ext (nx0+i) ⟨w.heap.size,0,siz,z⟩) S (w.alloc ob) (nx0+j) n' b->Ext B σ S w (nx0+j) n' b/\b<w.heap.size:=by
     intro j f n' b hj hn E A hI hx;rw[n6 J]at A;obtain⟨c,hc⟩:=V.ext j f n' hj hn (A.resolve_right E) hI;have bx:=hc;obtain⟨p,C,p1,p2,p5,_⟩:=hc;obtain⟨q,_,q1,q2,_⟩:=hx;have:=(ai _ _ p1).symm.trans q1;have:p=q:=bC7 this;have bv:b=c:=by rw[<-p2,<-q2,this]
     subst bv;exact⟨bx,(bB6.1 p5).1⟩
    have new:∀(n':Nw) (b:Nat),Ext B (σ.ext (nx0+i) ⟨w.heap.size,0,siz,z⟩) S (w.alloc ob) (nx0+i) n' b->b=w.heap.size:=by
     intro n' b hx;obtain⟨q,_,q1,q2,_⟩:=hx;rw[Sg.ext_same]at q1;rw[<-q2,<-bC7 q1]
    by_cases E:j=i
    ·subst E
     have cc:j'≠j:=Ne.symm Z;have:=(old j' f2 n2 b2 T N cc ah W x2).2;rw[new n1 b1 x1];omega
    ·by_cases K:j'=i
     ·subst K
      have:=(old j f1 n1 b1 hj M E ae U x1).2;rw[new n2 b2 x2];omega
     ·have o1:=(old j f1 n1 b1 hj M E ae U x1).1
      have o2:=(old j' f2 n2 b2 T N K ah W x2).1;rw[n6 J]at ae ah;exact V.apart j j' f1 f2 n1 n2 b1 b2 hj T M N Z (ae.resolve_right E) (ah.resolve_right K) U W o1 o2
  ·
   have h3:c6 o.op=3:=by have:=aj8 o.op;omega
   have ac:c6 e.o.op=3:=by rw[G];exact h3
   obtain⟨e1,e2,ar,ba⟩:=bt h3;obtain⟨hx,aw⟩:=hs.k3 ak (by omega)
   rw[G,e1,e2]at hx;rw[e2]at aw;obtain⟨T1,T2,T3⟩:=F.takes V (i:=i) (by omega) (ae3 e.pre I) (fun j hj hm=>by
    simp only[ae3,bA2,bE7]at hm;exact⟨aa j hm.1,hm.2⟩)
   refine U3 ad hx aq T1.max _ Q (fun σ' u w' O hv aj=>?_) r
   rw[T2]at O;have keep:∀(j:Nat) (f:Ent) (n:Nw),l[j]? =some f->f.nw=some n->lst L j->I'.testBit j=false-> ∃b,Ext B σ S w (nx0+j) n b/\Ext B σ' S' w' (nx0+j) n b:=by
    intro j f n hj hn A hI;rw[aw,Nat.testBit_or,Bool.or_eq_false_iff]at hI;obtain⟨b,hb⟩:=V.ext j f n hj hn A hI.1;exact⟨b,hb,(T3 j f n b hj hn A hI.1 (fun _=>by simp[ae3,hI.2]) hb).step aj O.le⟩
   have R:e.nw=none:=hs.nw (by omega)
   refine⟨σ',i+1,S',I',build u σ' w' (i+1) S' I' O.le hv au (.inr ⟨e,by omega,he,ac,hs.S2.symm⟩) ba (T1.back aj) (Sg.gr_trans V.gr O) (by have:=V.room;have:=O.nx;omega) (fun j e' n hj hn A=>?_) (fun j e' n hj hn A hI=>?_)
    (fun j j' f1 f2 n1 n2 b1 b2 hj T M N Z X Y U W x1 x2=>?_)⟩
   ·have cd:j<l.length:=(bA4.1 hj).1
    rw[O.low _ (by have:=V.room;have:=F.len;omega)]
    exact V.none j e' n hj hn (fun h=>A ((n6 J).2 (.inl h)))
   ·have E:j≠i:=by rintro rfl;rw[bC7 (hj.symm.trans he),R]at hn;cases hn
    rw[n6 J]at A;obtain⟨b,_,hb⟩:=keep j e' n hj hn (A.resolve_right E) hI;exact⟨b,hb⟩
   ·have E:j≠i:=by rintro rfl;rw[bC7 (hj.symm.trans he),R]at M;cases M
    have K:j'≠i:=by rintro rfl;rw[bC7 (T.symm.trans he),R]at N;cases N
    rw[n6 J]at X Y;obtain⟨c1,y1,z1⟩:=keep j f1 n1 hj M (X.resolve_right E) U;obtain⟨c2,y2,z2⟩:=keep j' f2 n2 T N (Y.resolve_right K) W;have ab:∀ {id:Nat} {n:Nw} {b c:Nat},Ext B σ' S' w' id n c->Ext B σ' S' w' id n b->b=c:=by
     intro id n b c hx hy;obtain⟨p,_,p1,p2,_⟩:=hx;obtain⟨q,_,q1,q2,_⟩:=hy;have:p=q:=bC7 (p1.symm.trans q1);rw[<-p2,<-q2,this]
    rw[ab z1 x1,ab z2 x2];rw[aw,Nat.testBit_or,Bool.or_eq_false_iff]at U W;exact V.apart j j' f1 f2 n1 n2 c1 c2 hj T M N Z (X.resolve_right E) (Y.resolve_right K) U.1 W.1 y1 y2
theorem Fix.all (q:L.size=ops.size)(hr:Region.ready .any ops L=[]):∀j,j<ops.size->lst L j:=by
 intro j
 induction j using Nat.strongRecOn with
 |_ j r=>
  intro hj
  by_cases hl:lst L j
  ·exact hl
  ·exfalso
   have hm:j∈Region.ready .any ops L:=by
    refine mem_ready.2 ⟨?_,ops[j],by simp[hj],fun p d hb=>?_⟩
    ·unfold lst at hl
     have:j<L.size:=by omega
     simp[this]at hl⊢;exact hl
    ·obtain⟨e,he,h⟩:=F.ent (o:=ops[j]) (j:=j) (by simp[hj])
     have:=(F.p1 he).2 p (by rw[h];simpa using d) hb
     exact r p.on this (by omega)
   rw[hr]at hm;cases hm
theorem Fix.ends          (V : Inv B w0 P call nt ops nx0 l tm0 tmN S0 SN IN σ0 D L a w σ k S I)
  (r:∀j,j<ops.size->lst L j):Y6 nx0 B w0 σ0 nt .normal tmN (Xe.takes nx0 (ab0 IN) l.reverse SN) D .normal a w:=by
 obtain⟨tmk,u⟩:=V.cut;have d:∀ {j:Nat} {e:Ent},l[j]? =some e->lst L j:=fun h=>r _ (by have:=(bA4.1 h).1;have:=F.len;omega)
 have q:=u.still (fun e hm=>by
  obtain⟨m,p⟩:=bF5.1 hm;rw[bE0]at p;intro h3;have:=(V.wr _ e p h3).1 (d p);omega)
 obtain⟨v,z,_⟩:=F.takes V (i:=l.length) (bC4 _) (ab0 IN) (fun j hj hm=>by
  have:l[j]? =some l[j]:=by simp[hj]
  refine⟨d this,?_⟩;rw[<-q.2]
  simpa [ab0]using hm)
 rw[List.take_length]at v z;rw[<-q.1]at v z;refine⟨rfl,V.defers,σ,by rw[z,q.1];exact V.gr,⟨V.tsz,fun t=>?_⟩,v⟩
 by_cases hx:∃(j:Nat) (e:Ent),l[j]? =some e/\e.o.dst=some t
 ·obtain⟨j,e,hj,hd⟩:=hx
  rw[F.chain.tm_some hj hd (fun m E hm C A=>(F.p2 hm hj C).1 t hd A)]
  exact V.tin j e t hj (d hj) hd
 ·rw [F.chain.tm_none (fun e he hd => by
   obtain⟨m,hm⟩:=bF5.1 he;exact hx ⟨m,e,hm,hd⟩)]
  exact V.tout t (fun j e hj _ hd=>hx ⟨j,e,hj,hd⟩)
omit F
def aq7 (L:Array Bool):Nat:=(L.toList.filter (fun b=> !b)).length
theorem av9 :∀(l:List Bool) (i:Nat),l[i]? =some false->((l.set i true).filter (fun b=> !b)).length+1=(l.filter (fun b=> !b)).length
 | [],i,h=>by simp at h
 |b::l,0,h=>by simp at h;subst h;simp
 |b::l,i+1,h=>by
  have:=av9 l i (by simpa using h)
  cases b<;>simp[this]
theorem aj9 (h:L.getD i true=false):aq7 (L.setIfInBounds i true)+1=aq7 L:=by
 have hi:=(aA1 h).1;unfold aq7;rw[Array.toList_setIfInBounds];refine av9 L.toList i ?_;simp[hi]at h⊢;exact h
include F
theorem Fix.any   (    h : B5 P call) (r : Option Nat) : ∀ (   d : Nat) (L : Array Bool) (a : Act) (w : World) (σ : Sg) (k : Nat) (S : Hp) (I : Nat), aq7 L =    d → Inv B w0 P call nt ops nx0 l tm0 tmN S0 SN IN σ0 D L a w σ k S I →
  wpAnyIn (RF r) 0 P .any ops (Y6 nx0 B w0 σ0 nt .normal tmN (Xe.takes nx0 (ab0 IN) l.reverse SN) D) d L a w:=by
 intro d
 induction d with
 |zero=>
  intro L a w σ k S I hf V;have hr:Region.ready .any ops L=[]:=by
   cases o:Region.ready .any ops L with
   |nil=>rfl
   |cons i r=>
    have:i∈Region.ready .any ops L:=by rw[o];simp
    have:=aj9 (mem_ready.1 this).1;omega
  exact⟨hr,F.ends V (F.all V.size hr)⟩
 |succ d u=>
  intro L a w σ k S I hf V;refine⟨fun hr=>F.ends V (F.all V.size hr),fun i hi=>?_⟩
  have t:=aj9 (mem_ready.1 hi).1;refine wpOpIn_mono (fun a' w' q=>?_) (F.step h V hi _ r)
  obtain⟨σ',k',S',I',p⟩:=q;exact u _ a' w' σ' k' S' I' (by omega) p
end
variable {P:Program}
theorem ao7  {call : c8} (    q : B5 P call) {nt : Nat} {ops : Array Oper} {tm : T Value} {hp : Hp} {tm' : T Value} {hp' : Hp} (h : F8 P call nt ops.toList tm hp = some (tm', hp')) {B : BS} {w0 : World} {σ : Sg} {a : Act} {w : World} (ht : TR σ nt tm a.tmps) ( p : HR B w0 σ hp w) (r : Option Nat) :
  wpAnyIn (RF r) 0 P .any ops (Y6 hp.nx B w0 σ nt .normal tm' hp' a.defers) ops.size (Array.replicate ops.size false) a {w with drawn:=w.drawn+1}:=by
 unfold F8 at h;cases z:stat ops.toList (p9 ops.toList [])with
 |false=>rw[z]at h;cases h
 |true=>
  rw[z,bB8]at h;split at h
  ·rename_i o A
   cases u:dyn P ⟨hp.m,hp.nx+ops.toList.length⟩ o.es with
   |false=>rw[u]at h;cases h
   |true=>
    rw[u,bB8]at h;simp only[bA1,bA3]at h;obtain⟨rfl,rfl⟩:=h;obtain⟨l,h1,h2,h3⟩:=bj3 _ 0 tm _ 0 [] o A rfl;rw[bI5]at h1;have F:Fix P call nt ops (p9 ops.toList []) hp.nx l tm o.tm ⟨hp.m,hp.nx+ops.toList.length⟩ o.S o.I:=⟨z,by rw[<-h1];exact u,h2,h3⟩
    rw[h1];have v:aq7 (Array.replicate ops.size false)=ops.size:=by simp[aq7]
    refine F.any (B:=B) (w0:=w0) (σ0:=σ) q r ops.size _ a _ σ 0 ⟨hp.m,hp.nx+ops.toList.length⟩ 0 v ?_;have d:∀j,¬lst (Array.replicate ops.size false) j:=by
     intro j hl;unfold lst at hl
     by_cases hj:j<ops.size<;>simp[hj]at hl
    have hr:HR B w0 σ ⟨hp.m,hp.nx+ops.toList.length⟩ w.drew:=
     ⟨p.os,p.tape,p.output,p.size,p.old,p.kept,fun i hi=>p.fresh i (by simp at hi;omega),p.live,p.inj⟩
    refine⟨by simp,fun j e hj hl=>absurd hl (d j),rfl,ht.size,fun j e t hj hl=>absurd hl (d j),fun t _=>ht.at_ t,⟨tm,by simpa using h3⟩,.inl ⟨rfl,rfl⟩,fun j e hj _=>⟨fun h=>absurd h (d j),fun h=>by omega⟩,
     hr,⟨Sg.le_refl σ,fun _ _=>rfl,by simp⟩,by simp,fun j e n hj hn _=>?_,fun j e n hj hn hl=>absurd hl (d j),fun j j' e e' n n' b b' hj C hn E G hl=>absurd hl (d j)⟩
    exact p.fresh _ (by omega)
  ·cases h
theorem bs4 (hm:P.follows .mixedOrders=true):U7 P (F8 P):=
 fun _ d _ _ _ _ _ _ _ h _ _ _ _ _ ht o r=>wpIn_region_any hm (ao7 d h ht o r)
end Go.Xe
end PartXm15
noncomputable section PartXmD
namespace Go.Xe
open Go.RowKit
def aT9 (ops:Array Oper)(l:List Nat):Prop:=
 ∀l1 i l2,l=l1++i::l2-> ∃o,ops[i]? =some o/\ ∀e∈o.after,Region.binds .any e=true->e.on∈l1
structure J3 (ops:Array Oper)(l:List Nat):Prop where
 nodup:l.Nodup
 mem:∀i,i∈l↔i<ops.size
 behind:aT9 ops l
variable {P:Program}{ops:Array Oper}{Q:Exit->Act->World->Prop}{l:List Nat}
theorem al2 {r : Option Nat}     (hl : J3 ops l) : ∀ ( q  p : List Nat) (L : Array Bool) (   d : Nat) (a : Act) (w : World), l =  p ++  q → L.size = ops.size →
  (∀j,j<ops.size->(L.getD j false=true↔j∈p))->wpAnyIn (RF r) 0 P .any ops Q d L a w->wpOpsIn (RF r) 0 P ops Q q a w:=by
 intro q
 induction q with
 |nil=>
  intro p L d a w he hs G h;rw[bI5]at he;subst he;have hr:Region.ready .any ops L=[]:=by
   cases K:Region.ready .any ops L with
   |nil=>rfl
   |cons i O=>
    have hi:i∈Region.ready .any ops L:=by grind
    obtain⟨M,o,A,_⟩:=mem_ready.1 hi;have hlt:i<ops.size:=(bB6.1 A).1;have h1:=(G i hlt).2 ((hl.mem i).2 hlt)
    grind
  cases d with
  |zero=>exact h.2
  |succ d=>exact h.1 hr
 |cons i q N=>
  intro p L d a w he hs G h;have u:i∈l:=by grind
  have hlt:i<ops.size:=(hl.mem i).1 u;obtain⟨o,A,t⟩:=hl.behind p i q he;have J:i∉p:=by
   intro hc;have:=hl.nodup
   grind
  have hi:i∈Region.ready .any ops L:=by
   refine mem_ready.2 ⟨?_,o,A,fun e v hb=>?_⟩
   ·grind
   ·have C:=t e v hb
    have E:e.on<ops.size:=(hl.mem _).1 (by rw[he];simp[C])
    grind
  cases d with
  |zero=>rw[h.1]at hi;cases hi
  |succ d=>
   rw[wpOpsIn_cons];refine wpOpIn_mono (fun a' w' hh=>?_) (h.2 i hi)
   refine N (p++ [i]) (L.setIfInBounds i true) d a' w' (by rw[he];simp) (by simpa using hs) (fun j hj=>?_) hh
   have z:i<L.size:=by omega
   have:=n6 (L:=L) (i:=i) (j:=j) z;unfold lst at this
   grind
theorem bh4 {L:Array Bool}(h:L.size=ops.size)(d:∀(i:Nat) o,ops[i]? =some o-> ∀e∈o.after,Region.binds .any e=true->e.on<i)(hr:Region.ready .any ops L=[]):∀j,j<ops.size->L.getD j false=true:=by
 intro j
 induction j using Nat.strongRecOn with
 |_ j q=>
  intro hj;cases p:L.getD j false with
  |true=>rfl
  |false=>
   exfalso
   have hm:j∈Region.ready .any ops L:=by
    refine mem_ready.2 ⟨?_,ops[j],by simp[hj],fun e he hb=>?_⟩
    ·grind
    ·grind
   grind
theorem bf4  (    p : ∀ (i : Nat) o, ops[i]? = some o → ∀ e ∈ o.after, Region.binds .any e = true → e.on < i) : ∀ (   h t : Nat) (L : Array Bool) ( d : List Nat), L.size = ops.size → (∀ j, j < ops.size → (L.getD j false = true ↔ j ∈  d)) →
  d.Nodup->(∀i∈d,i<ops.size)->aT9 ops d->aq7 L<=h->J3 ops (Region.linearise.go .any ops h t L d.reverse):=by
 intro h;have done:∀(L:Array Bool) (d:List Nat),L.size=ops.size->(∀j,j<ops.size->(L.getD j false=true↔j∈d))->d.Nodup->(∀i∈d,i<ops.size)->aT9 ops d->Region.ready .any ops L=[]->J3 ops d:=by
  intro L d hs q hn hm hb hr;exact⟨hn,fun i=>⟨hm i,fun hi=>(q i hi).1 (bh4 hs p hr i hi)⟩,hb⟩
 induction h with
 |zero=>
  intro t L d hs q hn hm hb K;simp only[Region.linearise.go,List.reverse_reverse];refine done L d hs q hn hm hb ?_;cases N:Region.ready .any ops L with
  |nil=>rfl
  |cons i R=>
   have hi:i∈Region.ready .any ops L:=by grind
   have:=aj9 (mem_ready.1 hi).1;omega
 | succ    h  O =>
  intro t L d hs q hn hm hb K;simp only[Region.linearise.go]
  change J3 ops (match(Region.ready .any ops L)[t % (Region.ready .any ops L).length]? with
   |some i=>Region.linearise.go .any ops h (t/ (Region.ready .any ops L).length) (L.setIfInBounds i true) (i::d.reverse)
   |none=>d.reverse.reverse)
  cases hi:(Region.ready .any ops L)[t % (Region.ready .any ops L).length]? with
  |none=>
   have C:Region.ready .any ops L=[]:=by
    cases hr:Region.ready .any ops L with
    |nil=>rfl
    |cons x xs=>
     rw[hr]at hi;have hlt:t % (x::xs).length<(x::xs).length:=Nat.mod_lt _ (by simp)
     grind
   grind
  | some i =>
   have u:=bB1 hi;obtain⟨r,o,v,A⟩:=mem_ready.1 u;have hlt:i<ops.size:=(bB6.1 v).1;have E:=aA1 r;have J:i∉d:=fun hc=>E.2 ((q i hlt).2 hc)
   have M:=aj9 r;have G:i::d.reverse=(d++ [i]).reverse:=by simp
   simp only[];rw[G];refine O _ (L.setIfInBounds i true) (d++ [i]) (by simpa using hs) (fun j hj=>?_) ?_ ?_ ?_ (by omega)
   ·have:=n6 (L:=L) (i:=i) (j:=j) E.1
    unfold lst at this
    grind
   ·grind
   ·grind
   ·intro k1 j k2 he
    rcases List.eq_nil_or_concat k2 with rfl| ⟨k3,z,rfl⟩
    ·have h1 :  d = k1 ∧ i = j := by
      simp_all
     grind
    ·have h1 :  d = k1 ++ j :: k3 := by
      simp_all
     exact hb k1 j k3 h1
theorem as6 (d:∀(i:Nat) o,ops[i]? =some o-> ∀e∈o.after,Region.binds .any e=true->e.on<i)(t:Nat):J3 ops (Region.schedule true ops t):=by
 simp only[Region.schedule,Bool.true_or,bI6,Region.linearise];refine bf4 d ops.size t (Array.replicate ops.size false) [] (by simp) (fun j hj=>?_) (by simp) (fun i hi=>by cases hi) (fun k1 i k2 he=>by simp at he) ?_
 ·simp[hj]
 ·simp[aq7]
def c7 (ops:Array Oper)(x y:Nat)(g:Ground):Array Oper:=ops.modify y fun o=> {o with after:=o.after.push ⟨x,g⟩}
variable {x y:Nat}{g:Ground}
theorem I6 {i:Nat}:(c7 ops x y g)[i]? =if y=i then(ops[i]?).map fun o=> {o with after:=o.after.push ⟨x,g⟩}else ops[i]? :=by
 unfold c7
 grind
theorem J3.edge    { p  q : List Nat} (h : J3 ops ( p ++ y ::  q)) (hx : x ∈  p) : J3 (c7 ops x y g) ( p ++ y ::  q) := by
 refine⟨h.nodup,fun i=>by rw[h.mem i];simp[c7],fun k1 i k2 he=>?_⟩
 obtain⟨o,u,hd⟩:=h.behind k1 i k2 he;rw[I6]
 by_cases hi:y=i
 ·subst hi
  rw[bC3 rfl,u];refine⟨_,rfl,fun e d hb=>?_⟩
  rcases Array.mem_push.1 d with d|rfl
  ·grind
  ·have   v : y ∉  p := fun hc => by
    have:=h.nodup
    grind
   have z:y∉k1:=fun hc=>by
    have:=h.nodup
    grind
   have A:p=k1:=by
    rcases List.append_eq_append_iff.1 he with⟨c,r,t⟩| ⟨c,r,t⟩
    ·cases c with
     |nil=>grind
     |cons c0 c=>grind
    ·cases c with
     |nil=>grind
     |cons c0 c=>grind
   grind
 ·grind
theorem J3.first (h:J3 ops l)(hx:x<ops.size)(hy:y<ops.size)(q:x≠y):(∃d p,l=d++y::p/\x∈d)\/(∃d p,l=d++x::p/\y∈d):=by
 obtain⟨d,p,e⟩:=List.append_of_mem ((h.mem y).2 hy);have o:=(h.mem x).2 hx;rw[e]at o
 rcases bD8.1 o with h1|h1
 ·grind
 ·rcases bD9.1 h1 with h1|h1
  ·grind
  ·obtain⟨t,u,r⟩:=List.append_of_mem h1
   grind
structure bk0 (ops ops':Array Oper)(ρ:Nat->Nat):Prop where
 get:∀(i:Nat) o,ops[i]? =some o-> ∃o',ops'[ρ i]? =some o'/\o'.op=o.op/\o'.dst=o.dst/\o'.type=o.type/\o'.guard=o.guard.map (fun g=>(ρ g.1,g.2))
 yielded:∀tmps (i:Nat) o g,ops[i]? =some o->o.guard=some g->yielded ops' tmps (ρ g.1)=yielded ops tmps g.1
variable {n:Nat}{w:World}
theorem aY7 {F:Fence}{o o':Oper}{a:Act}{K:Act->World->Prop}(h1:o'.op=o.op)(h2:o'.dst=o.dst)(h3:o'.type=o.type)(h:o'.wpIn F n P a w K Q):o.wpIn F n P a w K Q:=by
 obtain⟨d,op,ty,ps,af,g⟩:=o;obtain⟨u,q,t,r,p,v⟩:=o';simp only at h1 h2 h3;subst h1 h2 h3;exact h
theorem E9 {F:Fence}{n:Nat}{P:Program}{ops ops':Array Oper}{ρ:Nat->Nat}(p:bk0 ops ops' ρ){Q:Exit->Act->World->Prop}:∀(l:List Nat) {a:Act} {w:World},(∀i∈l,i<ops.size)->wpOpsIn F n P ops' Q (l.map ρ) a w->wpOpsIn F n P ops Q l a w
 | [],_,_,_,h=>h
 |i::l,a,w,hl,h=>by
  have hlt:=hl i (by simp)
  have q:ops[i]? =some ops[i]:=by simp[hlt]
  obtain⟨o',h1,h2,h3,h4,h5⟩:=p.get i _ q;have o:∀j∈l,j<ops.size:=fun j hj=>hl j (by simp[hj])
  have d:Region.wanted o' (yielded ops' a.tmps)=Region.wanted ops[i] (yielded ops a.tmps):=by
   unfold Region.wanted;rw[h5];cases t:ops[i].guard with
   |none=>rfl
   |some g=>
    simp only[bE6];rw[p.yielded a.tmps i _ g q t]
  simp only[bF2,wpOpsIn,h1]at h;simp only[wpOpsIn,q];rw[d]at h
  by_cases r:Region.wanted ops[i] (yielded ops a.tmps)=true
  ·rw[bC3 r]at h⊢
   exact Oper.wpIn_mono (fun a' w' hh=>E9 p l o hh) (aY7 h2 h3 h4 h)
  ·rw[bC1 r]at h⊢
   refine⟨?_,?_⟩
   ·have:=h.1
    unfold Oper.about at this⊢
    grind
   ·have:=h.2
    rw[h3]at this;exact E9 p l o this
theorem Z4 (ops:Array Oper)(x y:Nat)(g:Ground):bk0 ops (c7 ops x y g) id:=by
 refine⟨fun i o h=>?_,fun tmps i o d _ _=>?_⟩
 ·show∃o',(c7 ops x y g)[i]? =some o'/\_
  rw[I6]
  by_cases hi:y=i
  ·simp_all
  ·simp_all
 ·show yielded (c7 ops x y g) tmps d.1=yielded ops tmps d.1
  unfold yielded;rw[I6]
  grind
def M0 (x n j:Nat):Nat:=if j<x then j else if j=x then n-1 else if j<n then j-1 else j
def piL (x n k:Nat):Nat:=if k<x then k else if k+1=n then x else k+1
variable {j:Nat}
theorem ak0 (hj:j<n):M0 x n j<n:=by unfold M0;split<;>(try split)<;>(try split)<;>omega
variable {k:Nat}
theorem aW6 (hx:x<n)(hk:k<n):piL x n k<n:=by unfold piL;split<;>(try split)<;>omega
theorem T6 (hj:j<n):piL x n (M0 x n j)=j:=by
 unfold piL M0
 grind
theorem aQ2 (hk:k<n):M0 x n (piL x n k)=k:=by
 unfold piL M0
 grind
theorem bv5 (hx:x<n)(hj:n<=j):M0 x n j=j:=by
 unfold M0
 grind
def an8 (x n:Nat)(o:Oper):Oper:= {o with after:=o.after.map (fun e=> {e with on:=M0 x n e.on}),guard:=o.guard.map (fun g=>(M0 x n g.1,g.2))}
def moveLast (ops:Array Oper)(x:Nat):Array Oper:=
 match ops[x]? with
 |some o0=>((List.range ops.size).map fun k=>an8 x ops.size ((ops[piL x ops.size k]?).getD o0)).toArray
 |none=>ops
theorem aq3 (hx:x<ops.size):moveLast ops x=((List.range ops.size).map fun k=>an8 x ops.size ((ops[piL x ops.size k]?).getD ops[x])).toArray:=by
 unfold moveLast
 grind
theorem R1 (hx:x<ops.size):(moveLast ops x).size=ops.size:=by
 rw[aq3 hx];simp
theorem N4 (hx:x<ops.size)(hk:k<ops.size):(moveLast ops x)[k]? =(ops[piL x ops.size k]?).map (an8 x ops.size):=by
 rw[aq3 hx];have:=aW6 hx hk
 grind
theorem au9 (hx:x<ops.size):bk0 ops (moveLast ops x) (M0 x ops.size):=by
 refine⟨fun i o d=>?_,fun tmps i o g _ _=>?_⟩
 ·have hi:i<ops.size:=(bB6.1 d).1
  rw[N4 hx (ak0 hi),T6 hi,d];exact⟨_,rfl,rfl,rfl,rfl,rfl⟩
 ·unfold yielded
  by_cases hj:g.1<ops.size
  ·rw[N4 hx (ak0 hj),T6 hj]
   cases ops[g.1]? <;>rfl
  ·rw[bv5 hx (by omega)]
   have h:(moveLast ops x)[g.1]? =none:=Array.getElem?_eq_none (by rw[R1 hx];omega)
   grind
theorem J3.moveLast {ops:Array Oper}{l:List Nat}(h:J3 ops l){x:Nat}(hx:x<ops.size):J3 (moveLast ops x) (l.map (M0 x ops.size)):=by
 have hlt:∀i∈l,i<ops.size:=fun i hi=>(h.mem i).1 hi
 refine⟨?_,fun k=>?_,fun k1 k k2 he=>?_⟩
 ·unfold List.Nodup
  rw[List.pairwise_map];refine List.Pairwise.imp_of_mem (fun{a b} z hb p e=>p ?_) h.nodup
  rw[<-T6 (hlt a z),<-T6 (hlt b hb),e]
 ·rw[R1 hx,bI1]
  constructor
  ·rintro ⟨j,hj,rfl⟩;exact ak0 (hlt j hj)
  ·intro hk;exact⟨piL x ops.size k,(h.mem _).2 (aW6 hx hk),aQ2 hk⟩
 ·obtain⟨A,J,r,E,t⟩:=List.map_eq_append_iff.1 he
  obtain⟨i,C,u,v,G⟩:=List.map_eq_cons_iff.1 t;obtain⟨o,q,hd⟩:=h.behind A i C (by rw[r,u])
  have hi:i<ops.size:=(bB6.1 q).1;subst v;rw[N4 hx (ak0 hi),T6 hi,q];refine⟨_,rfl,fun e d hb=>?_⟩
  simp only[an8]at d;obtain⟨e0,h0,rfl⟩:=Array.mem_map.1 d;have:=hd e0 h0 hb
  grind
def aJ0 :List (Value×Value)->List (Value×Value)->Bool
 | [],[]=>true
 |x::xs,y::ys=>veq 100 x.1 y.1&&veq 100 x.2 y.2&&aJ0 xs ys
 |_,_=>false
theorem aF5 :∀ {xs ys:List (Value×Value)},aJ0 xs ys=true->xs=ys
 | [],[],_=>rfl
 |x::xs,y::ys,h=>by
  simp only[aJ0,bA2]at h;rw[aF5 h.2,Prod.ext (ao5 100 _ _ h.1.1) (ao5 100 _ _ h.1.2)]
 | [],_::_,h=>by cases h
 |_::_,[],h=>by cases h
def ap7 (b c:Blk):Bool:=
 match b,c with
 | .cells c n e z,.cells c' n' e' z'=>Nat.beq n n'&&Nat.beq e e'&&Nat.beq z z'&&(match f9 c 0 n,f9 c' 0 n with|some v,some v'=>Q7 (veq 100) v v'|_,_=>false)
 | .map es r,.map es' r'=>(r==r')&&aJ0 es es'
 | .dfr,.dfr=>true
 |_,_=>false
theorem bl1 {σ:Sg}{p:Pl}{b c:Blk}{o:Obj}(h:ap7 b c=true)(hc:BR σ p c o):BR σ p b o:=by
 unfold ap7 at h;split at h
 ·rename_i A n e z E n' e' M
  simp only[bA2]at h;obtain⟨⟨⟨h1,h2⟩,h3⟩,h4⟩:=h;have h1:=bA6 h1;have h2:=bA6 h2;have h3:=bA6 h3;subst h1 h2 h3;split at h4
  ·rename_i v v' q d
   have:=U8 (ao5 100) h4;subst this;obtain⟨C,k1,k2,k3,r,t⟩:=hc;refine⟨C,k1,k2,k3,r,fun j hj=>?_⟩
   obtain⟨x,u,q1,q2,K⟩:=t j hj;have G:=(u6 q).2 j hj;have J:=(u6 d).2 j hj
   grind
  ·cases h4
 ·simp only[bA2,beq_iff_eq]at h
  obtain⟨rfl,h⟩:=h;rw[aF5 h];exact hc
 ·exact hc
 ·cases h
theorem aM5 {b c:Blk}(h:ap7 b c=true):P4 b=false/\P4 c=false:=by
 unfold ap7 at h;split at h<;>first|exact⟨rfl,rfl⟩|cases h
def aV1 (m1 m2:T Blk):Nat->Nat->T Blk->T Blk
 |_,0,acc=>acc
 |i,n+1,acc=>match m1.get i,m2.get i with
  |some b,some c=>bif ap7 b c then(acc.set i (some b)).force fun acc'=>aV1 m1 m2 (i+1) n acc' else aV1 m1 m2 (i+1) n acc
  |_,_=>aV1 m1 m2 (i+1) n acc
theorem aO3 {d o:T Blk}:∀(n i:Nat) (acc:T Blk) (j:Nat) (b:Blk),(aV1 d o i n acc).get j=some b->acc.get j=some b\/(d.get j=some b/\ ∃c,o.get j=some c/\ap7 b c=true):=by
 intro n
 induction n with
 |zero=>intro i acc j b h;exact .inl h
 |succ n r=>
  intro i acc j b h;simp only[aV1]at h;split at h
  ·rename_i p q h1 h2
   cases hb:ap7 p q with
   |false=>grind
   |true=>
    rw[hb,bB8,T.force_eq]at h
    rcases r _ _ _ _ h with h3|h3
    ·rw[T.get_set]at h3
     grind
    ·grind
  ·grind
def aO2 (t1 t2 : T Value) : Nat → Nat → Option (List Value)
 |_,0=>some []
 | k, n + 1 => bif veq 100 ((t1.get k).getD undef) ((t2.get k).getD undef) then
   match aO2 t1 t2 (k+1) n with
   |some vs=>some ((t1.get k).getD undef::vs)
   |none=>none
  else none
theorem bf6 {t1 t2:T Value}:∀ {n k:Nat} {vs:List Value},aO2 t1 t2 k n=some vs->vs.length=n/\ ∀j,j<n->vs[j]? =some ((t1.get (k+j)).getD undef)/\(t1.get (k+j)).getD undef=(t2.get (k+j)).getD undef:=by
 intro n
 induction n with
 |zero=>intro k vs h;simp only[aO2,bA1]at h;subst h;exact⟨rfl,fun j hj=>absurd hj (Nat.not_lt_zero j)⟩
 |succ n o=>
  intro k vs h;simp only[aO2]at h;cases hb:veq 100 ((t1.get k).getD undef) ((t2.get k).getD undef)with
  |false=>grind
  |true=>
   rw[hb,bB8]at h;split at h
   ·rename_i p d
    cases h;obtain⟨h1,h2⟩:=o d;refine⟨by simp[h1],fun j hj=>?_⟩
    cases j with
    |zero=>exact⟨rfl,ao5 100 _ _ hb⟩
    |succ j=>grind
   ·cases h
def at9 (nt:Nat)(a b:T Value×Hp):Option (T Value×Hp):=
 bif Nat.beq a.2.nx b.2.nx then match aO2 a.1 b.1 0 nt with
  |some vs=>some (fill .e 0 vs,⟨aV1 a.2.m b.2.m 0 a.2.nx .e,a.2.nx⟩)
  |none=>none
 else none
section
variable {P :Program}{B:BS}{w0:World}
theorem aj5 {nt n : Nat} {a b : T Value × Hp} {tm : T Value} {hp : Hp} (h : at9 nt a b = some (tm, hp)) {σ : Sg} {e : Exit} {D : List Deferred} {e' : Exit} {c : Act} {w : World} :
  (Y6 n B w0 σ nt e a.1 a.2 D e' c w->Y6 n B w0 σ nt e tm hp D e' c w)/\(Y6 n B w0 σ nt e b.1 b.2 D e' c w->Y6 n B w0 σ nt e tm hp D e' c w):=by
 unfold at9 at h;cases hn:Nat.beq a.2.nx b.2.nx with
 |false=>grind
 |true=>
  rw[hn,bB8]at h;have hn:=bA6 hn;split at h
  ·rename_i vs u
   cases h;obtain⟨v1,C⟩:=bf6 u;have A:∀ {σ':Sg} {t:T Value} {tmps:Array Value},(∀j,j<nt->vs[j]? =some ((t.get j).getD undef))->TR σ' nt t tmps->TR σ' nt (fill .e 0 vs) tmps:=by
    intro σ' t tmps ht h;refine⟨h.size,fun k=>?_⟩
    rw[j3]
    by_cases hk:k<nt
    ·rw[bC3 (by omega),bI0,ht k hk]
     exact h.at_ k
    ·rw[bC1 (by omega),T.get_e]
     have:tmps.getD k undef=undef:=by simp[Array.getD,h.size,hk]
     rw[this];exact VR.undef σ'
   constructor
   ·rintro ⟨h1,h2,σ',h3,h4,h5⟩
    refine⟨h1,h2,σ',h3,A (fun j hj=>by have:=(C j hj).1;rw[bD3]at this;exact this) h4,h5.less fun i b d=>?_⟩
    rcases aO3 _ _ _ _ _ d with h| ⟨h,_⟩
    ·rw[T.get_e]at h;cases h
    ·exact h
   ·rintro ⟨h1,h2,σ',h3,h4,h5⟩
    refine⟨h1,h2,σ',by show Sg.gr n a.2.nx σ σ';rw[hn];exact h3,A (fun j hj=>by have:=C j hj;rw[bD3]at this;rw[<-this.2];exact this.1) h4,?_⟩
    have sub:∀i x,(aV1 a.2.m b.2.m 0 a.2.nx .e).get i=some x-> ∃y,b.2.m.get i=some y/\ap7 x y=true:=by
     intro i x d
     rcases aO3 _ _ _ _ _ d with h| ⟨_,h⟩
     ·rw[T.get_e]at h;cases h
     ·exact h
    refine⟨h5.os,h5.tape,h5.output,h5.size,h5.old,h5.kept,fun i hi=>h5.fresh i (by rw[<-hn];exact hi),fun i x d=>?_,fun i j x y p q hi hj r hp hq=>?_⟩
    ·obtain⟨y,hy,hb⟩:=sub i x d
     obtain⟨p,o,k1,k2,k3,E⟩:=h5.live i y hy;exact⟨p,o,k1,k2.like (aM5 hb).2 (aM5 hb).1,k3,bl1 hb E⟩
    ·obtain⟨x',v,_⟩:=sub i x hi
     obtain⟨G,z,_⟩:=sub j y hj;exact h5.inj i j x' G p q v z r hp hq
  ·cases h
end
def av1 :Nat->List Oper->Bool
 |_,[]=>true
 |i,o::os=>o.after.toList.all (fun e=> !(Region.binds .any e)||Nat.blt e.on i)&&av1 (i+1) os
theorem aD4 :∀ {os:List Oper} {i:Nat},av1 i os=true-> ∀(j:Nat) o,os[j]? =some o-> ∀e∈o.after,Region.binds .any e=true->e.on<i+j
 | [],_,_,j,o,h=>by simp at h
 |x::os,i,h,j,o,d=>by
  simp only[av1,bA2,bD1]at h;cases j with
  |zero=>
   simp at d;subst d;intro e he hb;have:=h.1 e (by simpa using he)
   simp_all
  |succ j=>
   intro e he hb;have:=aD4 h.2 j o (by simpa using d) e he hb
   omega
def an1 (all:List Oper):Option (Nat×Nat):=
 (aU6 all (p9 all [])).findSome? fun x=>(aU6 all (p9 all [])).findSome? fun y=>bif s2 x y then none else some (y.i,x.i)
def be8 (p:Oper×Nat):Op×Option Tmp×Nat:=(p.1.op,p.1.dst,p.2)
def X7 (e:Ent):Nat×Option Nw:=(e.i,e.nw)
def ag0 :List (Oper×Nat)->Nat
 | []=>0
 |p::l=>(bif Nat.beq (c6 p.1.op) 3 then p.2 else 0)|||ag0 l
theorem W3 {nx0:Nat}{m:Nat->Bool}:∀ {d o:List Ent} {S:Hp},d.map X7=o.map X7->takes nx0 m d S=takes nx0 m o S
 | [],[],_,_=>rfl
 | [],_::_,_,h=>by simp at h
 |_::_,[],_,h=>by simp at h
 |e::d,f::o,S,h=>by
  simp only[bF2,bG9,X7,bA3]at h;unfold takes;rw[h.1.2,h.1.1];cases f.nw with
  |none=>exact W3 h.2
  |some n=>
   cases m f.i with
   |true=>exact W3 h.2
   |false=>exact W3 h.2
theorem az7 {nx0:Nat}{m:Nat->Bool}:∀ {es:List Ent} {S:Hp},(∀e∈es,e.nw≠none->m e.i=false)->takes nx0 m es S=S
 | [],_,_=>rfl
 |e::es,S,h=>by
  unfold takes;have d:=az7 (nx0:=nx0) (m:=m) (es:=es) (S:=S) fun f hf=>h f (bF9 _ hf)
  cases hn:e.nw with
  |none=>exact d
  |some n=>
   rw[h e (by simp) (by rw[hn];simp)]
   exact d
section
variable {P :Program}{call:c8}{nt nx0:Nat}
variable (P call nt nx0) in
def xg1 (op:Op)(dst:Option Tmp)(pre i:Nat)(tm:T Value)(S:Hp)(I:Nat)(es:List Ent):Option (Value×Hp×Nat×Option Nw):=
 bif l5 nt dst then match c6 op with
  |0=>(xop P call tm S op).map fun r=>(r.1,S,I,none)
  |1=>(xrd P tm S op).map fun v=>(v,S,I,none)
  |2=>(xnw P tm op).map fun n=>(n.val (nx0+i),S,I,some n)
  |_=>(xop P call tm (takes nx0 (ae3 pre I) es S) op).map fun r=>(r.1,r.2,I|||pre,none)
 else none
variable {I i pre:Nat}{tm:T Value}{S:Hp}{es:List Ent}
theorem ab9 {all : List Oper} {o : Oper}  {rest : List (Oper × Nat)}      ( d : o.guard = none) :
  xgo P call nt all nx0 ((o,pre)::rest) i tm S I es=(xg1 P call nt nx0 o.op o.dst pre i tm S I es).bind fun r=>xgo P call nt all nx0 rest (i+1) (j2 tm o.dst r.1) r.2.1 r.2.2.1 (⟨i,o,pre,tm,S,r.2.1,I,true,r.1,r.2.2.2⟩::es):=by
 have h:f8 all tm o=true:=by unfold f8;rw[d]
 conv=>lhs;unfold xgo
 unfold xg1;rw[h];cases l5 nt o.dst with
 |false=>rfl
 |true=>
  simp only[bB8];generalize c6 o.op=k
  match k with
  |0=>simp only;cases xop P call tm S o.op<;>rfl
  |1=>simp only;cases xrd P tm S o.op<;>rfl
  |2=>simp only;cases xnw P tm o.op<;>rfl
  |k+3=>simp only;cases xop P call tm (takes nx0 (ae3 pre I) es S) o.op<;>rfl
variable {dst:Option Tmp}
theorem bs5 {op:Op}{d:List Ent}(h:es.map X7=d.map X7):xg1 P call nt nx0 op dst pre i tm S I es=xg1 P call nt nx0 op dst pre i tm S I d:=by
 unfold xg1;rw[W3 h]
theorem xg1_I {op : Op}       {r : Value × Hp × Nat × Option Nw} (h : xg1 P call nt nx0 op dst pre i tm S I es = some r) :
  r.2.2.1=I||| (bif Nat.beq (c6 op) 3 then pre else 0)/\(r.2.2.2≠none->c6 op=2):=by
 unfold xg1 at h;cases hd:l5 nt dst with
 |false=>rw[hd]at h;cases h
 |true=>
  rw[hd,bB8]at h;have hk:=aj8 op;generalize c6 op=k at h hk⊢
  match k with
  |0=>simp only[bI2]at h;obtain⟨_,_,rfl⟩:=h;simp[show Nat.beq 0 3=false from rfl]
  |1=>simp only[bI2]at h;obtain⟨_,_,rfl⟩:=h;simp[show Nat.beq 1 3=false from rfl]
  |2=>simp only[bI2]at h;obtain⟨_,_,rfl⟩:=h;simp[show Nat.beq 2 3=false from rfl]
  |3=>simp only[bI2]at h;obtain⟨_,_,rfl⟩:=h;simp[show Nat.beq 3 3=true from rfl]
  |k+4=>omega
theorem bs8 {   v all2 : List Oper} { K  M : List (Oper × Nat)} {   z    A : Out} {T0 : Nat} : ∀ ( t  E : List (Oper × Nat)) (i : Nat) (tm : T Value) (S : Hp) (I : Nat) (  o   u : List Ent),  t.map be8 =  E.map be8 →   o.map X7 =   u.map X7 →
  (∀p∈t,p.1.guard=none)->(∀p∈E,p.1.guard=none)->I|||ag0 t=T0->(∀e∈o,e.nw≠none->T0.testBit e.i=true)->(∀(k:Nat) p,t[k]? =some p->c6 p.1.op=2->T0.testBit (i+k)=true)->
  xgo P call nt v nx0 (t++K) i tm S I o=some z->xgo P call nt all2 nx0 (E++M) i tm S I u=some A->
  ∃tm' S' d q,d.map X7=q.map X7/\(∀e∈d,e.nw≠none->T0.testBit e.i=true)/\
   xgo P call nt v nx0 K (i+t.length) tm' S' T0 d=some z/\xgo P call nt all2 nx0 M (i+t.length) tm' S' T0 q=some A
 | [],[],i,tm,S,I,o,u,_,he,_,_,C,hc,_,h1,h2=>by
  have C:I=T0:=by rw[<-C];simp[ag0]
  subst C;exact⟨tm,S,o,u,he,hc,h1,h2⟩
 | [],_::_,_,_,_,_,_,_,h,_,_,_,_,_,_,_,_=>by simp at h
 |_::_,[],_,_,_,_,_,_,h,_,_,_,_,_,_,_,_=>by simp at h
 | (J,p1)::t,(W,p2)::E,i,tm,S,I,o,u,hl,he,N,O,C,hc,hk,h1,h2=>by
  simp only[bF2,bG9,be8,bA3]at hl;obtain⟨⟨R,U,rfl⟩,hl⟩:=hl;rw[bG2,ab9 (show J.guard=none from N _ List.mem_cons_self)]at h1;rw[bG2,ab9 (show W.guard=none from O _ List.mem_cons_self),<-R,<-U,<-bs5 he]at h2;cases hx:xg1 P call nt nx0 J.op J.dst p1 i tm S I o with
  |none=>rw[hx]at h1;cases h1
  |some r=>
   rw[hx]at h1 h2;simp only[Option.bind_some]at h1 h2;obtain⟨i1,V⟩:=xg1_I hx;have G:r.2.2.1|||ag0 t=T0:=by rw[i1,<-C,ag0,Nat.or_assoc]
   obtain⟨tm',S',d,q,a1,a2,a3,a4⟩:=bs8 t E (i+1) _ _ _ _ _ hl (by simp only[bF2,he];rfl) (fun p hp=>N p (bF9 _ hp)) (fun p hp=>O p (bF9 _ hp)) G
    (fun e he' hn=>by
     rcases bD9.1 he' with rfl|he'
     ·exact hk 0 _ rfl (V hn)
     ·exact hc e he' hn) (fun k p hp h=>by have:=hk (k+1) p (by simpa using hp) h;rwa[show i+1+k=i+(k+1) by omega]) h1 h2
   exact⟨tm',S',d,q,a1,a2,by rw[bE4,show i+(t.length+1)=i+1+t.length by omega];exact a3,by rw[bE4,show i+(t.length+1)=i+1+t.length by omega];exact a4⟩
theorem bs7 {   C all2 : List Oper} { R  U : List (Oper × Nat)} {   E    G : Out} { V S2 : Hp} { O I2 : Nat} : ∀ ( u  M : List (Oper × Nat)) (i j : Nat) (tm : T Value) (  z   A : List Ent), ( u.map fun p => (p.1.op, p.1.dst)) = ( M.map fun p => (p.1.op, p.1.dst)) →
  (∀p∈u,p.1.guard=none)->(∀p∈M,p.1.guard=none)->(∀p∈u,c6 p.1.op=0)->
  xgo P call nt C nx0 (u++R) i tm V O z=some E->xgo P call nt all2 nx0 (M++U) j tm S2 I2 A=some G->
  ∃tm' o q,(∀e∈o,e.nw≠none->e∈z)/\(∀e∈q,e.nw≠none->e∈A)/\(∀t,(∀p∈u,p.1.dst≠some t)->tm'.get t=tm.get t)/\
   xgo P call nt C nx0 R (i+u.length) tm' V O o=some E/\xgo P call nt all2 nx0 U (j+u.length) tm' S2 I2 q=some G
 | [],[],i,j,tm,z,A,_,_,_,_,h1,h2=>⟨tm,z,A,fun e h _=>h,fun e h _=>h,fun _ _=>rfl,h1,h2⟩
 | [],_::_,_,_,_,_,_,h,_,_,_,_,_=>by simp at h
 |_::_,[],_,_,_,_,_,h,_,_,_,_,_=>by simp at h
 | (J,p1)::u,(o2,p2)::M,i,j,tm,z,A,hl,W,X,hk,h1,h2=>by
  simp only[bF2,bG9,bA3]at hl;obtain⟨⟨Y,Z⟩,hl⟩:=hl;have K:c6 J.op=0:=hk _ List.mem_cons_self;rw[bG2,ab9 (show J.guard=none from W _ List.mem_cons_self)]at h1;rw[bG2,ab9 (show o2.guard=none from X _ List.mem_cons_self),<-Y,<-Z]at h2;obtain⟨r,hr⟩:=aB2 (P:=P) (call:=call) (tm:=tm) K;have st:∀pre i S I es,xg1 P call nt nx0 J.op J.dst pre i tm S I es=bif l5 nt J.dst then r.map fun v=>(v,S,I,none)else none:=by
   intro pre i S I es;unfold xg1;rw[K,hr];cases r<;>rfl
  rw[st]at h1 h2;cases hd:l5 nt J.dst with
  |false=>rw[hd]at h1;cases h1
  |true=>
   rw[hd,bB8]at h1 h2;cases r with
   |none=>cases h1
   |some v=>
    simp only[bE6,Option.bind_some]at h1 h2;obtain⟨tm',o,q,a1,a2,a3,a4,a5⟩:=bs7 u M (i+1) (j+1) _ _ _ hl (fun p hp=>W p (bF9 _ hp)) (fun p hp=>X p (bF9 _ hp)) (fun p hp=>hk p (bF9 _ hp)) h1 h2
    refine⟨tm',o,q,fun e he hn=>?_,fun e he hn=>?_,fun t ht=>?_,by rw[bE4,show i+(u.length+1)=i+1+u.length by omega];exact a4,by rw[bE4,show j+(u.length+1)=j+1+u.length by omega];exact a5⟩
    ·rcases bD9.1 (a1 e he hn)with rfl|h
     ·exact absurd rfl hn
     ·exact h
    ·rcases bD9.1 (a2 e he hn)with rfl|h
     ·exact absurd rfl hn
     ·exact h
    ·rw[a3 t fun p hp=>ht p (bF9 _ hp)]
     have h0:=ht _ List.mem_cons_self;unfold j2;cases N:J.dst with
     |none=>rfl
     |some d=>simp only;rw[T.get_set,bC1 (fun e=>h0 (by rw[N,e]))]
theorem aH2 {t : TypeId} {o:Nat} {x : Value} {hp hp' : Hp} (h : A9 P hp t (.pointer (some ⟨i, o, none⟩)) x = some hp') :
  ∃b,(∀k,hp'.m.get k=if k=i then some b else hp.m.get k)/\hp'.nx=hp.nx/\ ∀hq:Hp,hq.m.get i=hp.m.get i-> ∀d,A9 P hq t (.pointer (some ⟨i,o,none⟩)) x=some d->(∀k,d.m.get k=if k=i then some b else hq.m.get k)/\d.nx=hq.nx:=by
 unfold A9 at h;simp only at h;split at h
 ·rename_i c n e z u
  split at h
  ·rename_i r q
   cases hb:Nat.beq x.cells.toList.length r.size&&Nat.ble (o+r.size) n&&x.cells.toList.all Value.oneCell' with
   |false=>rw[hb]at h;cases h
   |true=>
    rw[hb,bB8,bA1]at h;refine⟨.cells (fill c o x.cells.toList) n e z,fun k=>?_,by rw[<-h,I8],fun hq p d hx=>?_⟩
    ·rw[<-h,I8];exact T.get_set _ _ _ _
    ·unfold A9 at hx
     simp only[p,u,q]at hx;rw[hb,bB8,bA1]at hx;refine⟨fun k=>?_,by rw[<-hx,I8]⟩
     rw[<-hx,I8];exact T.get_set _ _ _ _
  ·cases h
 ·cases h
theorem bs6 {   N all2 : List Oper} {A1 A2 B1 B2 : List (Oper × Nat)} {X1 X2 Y1 Y2 : Oper × Nat}   {   d    q : Out} {t t' : TypeId} {a v a' v' : Operand} {j o o':Nat}
  (Y:∀p∈A1++X1::(B1++ [Y1]),p.1.guard=none) (Z:∀p∈A2++(B2++ [Y2,X2]),p.1.guard=none)
  (hA:A1.map be8=A2.map be8) (hB:(B1.map fun p=>(p.1.op,p.1.dst))=(B2.map fun p=>(p.1.op,p.1.dst))) (al:∀p∈B1,c6 p.1.op=0)
  (hc:∀(k:Nat) p,A1[k]? =some p->c6 p.1.op=2->(ag0 A1).testBit k=true)
  (ao:X1.1.op= .store t a v) (ap:X2.1.op= .store t a v) (aq:Y1.1.op= .store t' a' v') (ar:Y2.1.op= .store t' a' v') (ab:X1.1.dst=none) (ac:X2.1.dst=none) (ad:Y1.1.dst=none) (ae:Y2.1.dst=none)
  (ha:∀k,a= .tmp k-> ∀p∈B1,p.1.dst≠some k) (hv:∀k,v= .tmp k-> ∀p∈B1,p.1.dst≠some k)
  (h1:xgo P call nt N nx0 (A1++X1::(B1++ [Y1])) 0 tm S 0 []=some d) (h2:xgo P call nt all2 nx0 (A2++(B2++ [Y2,X2])) 0 tm S 0 []=some q)
  (p1:a8 d.tm a=some (.pointer (some ⟨i,o,none⟩))) (p2:a8 d.tm a'=some (.pointer (some ⟨j,o',none⟩))) (E:i≠j):
  q.tm=d.tm/\(takes nx0 (ab0 q.I) q.es q.S).nx=(takes nx0 (ab0 d.I) d.es d.S).nx/\ ∀k,(takes nx0 (ab0 q.I) q.es q.S).m.get k=(takes nx0 (ab0 d.I) d.es d.S).m.get k:=by
 obtain⟨tm1,S1,z,A,a1,a2,a3,a4⟩:=bs8 A1 A2 0 tm S 0 [] [] hA rfl (fun p hp=>Y p (by simp[hp])) (fun p hp=>Z p (by simp[hp])) (Nat.zero_or _) (fun e he=>by simp at he) (fun k p hp h=>by rw[bD3];exact hc k p hp h) h1 h2
 have J:∀ {es:List Ent},(∀e∈es,e.nw≠none->e∈z)-> ∀ {m:Nat->Bool} {S:Hp},(∀n,(ag0 A1).testBit n=true->m n=false)->takes nx0 m es S=S:=by
  intro es he m S hm;exact az7 fun e h hn=>hm _ (a2 e (he e h hn) hn)
 have aa:∀e∈A,e.nw≠none->(ag0 A1).testBit e.i=true:=by
  intro e he hn;have hm:X7 e∈z.map X7:=by rw[a1];exact List.mem_map_of_mem he
  obtain⟨f,hf,C⟩:=bI1.1 hm;simp only[X7,bA3]at C;rw[<-C.1];exact a2 f hf (by rw[C.2];exact hn)
 have K:∀ {es:List Ent},(∀e∈es,e.nw≠none->e∈A)-> ∀ {m:Nat->Bool} {S:Hp},(∀n,(ag0 A1).testBit n=true->m n=false)->takes nx0 m es S=S:=by
  intro es he m S hm;exact az7 fun e h hn=>hm _ (aa e (he e h hn) hn)
 have r:∀ {pre I:Nat},(∀n,(ag0 A1).testBit n=true->I.testBit n=true)-> ∀n,(ag0 A1).testBit n=true->ae3 pre I n=false:=fun h n hn=>by unfold ae3;rw[h n hn];simp
 have stp : ∀ {all : List Oper} {X : Oper × Nat} {R : List (Oper × Nat)} {n : Nat} {tm : T Value} {S : Hp} {I : Nat} {es : List Ent} {t : TypeId} {a v : Operand} {  G : Out}, X.1.guard = none → X.1.op = .store t a v → X.1.dst = none → (∀ pre, takes nx0 (ae3 pre I) es S = S) →
   xgo P call nt all nx0 (X::R) n tm S I es=some G-> ∃pv M S',a8 tm a=some pv/\a8 tm v=some M/\A9 P S t pv M=some S'/\ ∃e,e.nw=none/\xgo P call nt all nx0 R (n+1) tm S' (I|||X.2) (e::es)=some G:=by
  intro all X R n tm S I es t a v G hg ho hd ht hx;obtain⟨X,pre⟩:=X;rw[ab9 hg,show X.dst=none from hd,show X.op=_ from ho]at hx;unfold xg1 at hx;rw[show c6 (.store t a v)=3 from rfl,ht,show l5 nt none=true from rfl,bB8]at hx;simp only[a9,d9]at hx;cases hp:a8 tm a with
  |none=>rw[hp]at hx;cases hx
  |some pv=>
   cases hu:a8 tm v with
   |none=>rw[hp,hu]at hx;cases hx
   |some M=>
    rw[hp,hu]at hx;simp only at hx;cases hs:A9 P S t pv M with
    |none=>rw[hs]at hx;cases hx
    |some S'=>
     rw[hs]at hx;exact⟨pv,M,S',rfl,rfl,hs,_,rfl,hx⟩
 have ah:=Y X1 (by simp)
 have aj:=Y Y1 (by simp)
 have ai:=Z X2 (by simp)
 have ak:=Z Y2 (by simp)
 obtain⟨pv,M,S2,b1,b2,b3,e1,n1,b4⟩:=stp ah ao ab (fun pre=>J (fun e h _=>h) (r fun n h=>h)) a3
 obtain⟨au,V,W,c1,c2,c3,c4,c5⟩:=bs7 B1 B2 _ _ tm1 _ _ hB (fun p hp=>Y p (by simp[hp])) (fun p hp=>Z p (by simp[hp])) al b4 a4
 have O:∀e∈V,e.nw≠none->e∈z:=fun e he hn=>by
  rcases bD9.1 (c1 e he hn)with rfl|h
  ·exact absurd n1 hn
  ·exact h
 obtain⟨pw,yv,S3,d1,d2,d3,e2,n2,d4⟩:=stp aj aq ad (fun pre=>J O (r fun n h=>by rw[Nat.testBit_or,h];rfl)) c4
 simp only[xgo,bA1]at d4;subst d4;obtain⟨aw,ay,S4,f1,f2,f3,e3,n3,f4⟩:=stp ak ar ae (fun pre=>K c2 (r fun n h=>h)) c5
 have U:∀e∈e3::W,e.nw≠none->e∈A:=fun e he hn=>by
  rcases bD9.1 he with rfl|h
  ·exact absurd n3 hn
  ·exact c2 e h hn
 obtain⟨av,ax,S5,k1,k2,k3,e4,n4,k4⟩:=stp ai ap ac (fun pre=>K U (r fun n h=>by rw[Nat.testBit_or,h];rfl)) f4
 simp only[xgo,bA1]at k4;subst k4;have ev:∀ {x:Operand},(∀k,x= .tmp k-> ∀p∈B1,p.1.dst≠some k)->a8 au x=a8 tm1 x:=by
  intro x hx;cases x with
  |tmp k=>simp only[a8];rw[c3 k (hx k rfl)]
  |_=>rfl
 rw[ev ha]at k1 p1;rw[ev hv]at k2;rw[b1]at k1 p1;cases k1;cases p1;rw[b2]at k2;cases k2;rw[d1]at f1 p2;cases f1;cases p2;rw[d2]at f2;cases f2;obtain⟨bx,x1,x2,x3⟩:=aH2 b3;obtain⟨by_,y1,y2,y3⟩:=aH2 d3;obtain⟨z1,z2⟩:=y3 S1 (by rw[x1,bC1 (Ne.symm E)]) _ f3
 obtain⟨w1,w2⟩:=x3 S4 (by rw[z1,bC1 E]) _ k3
 have u:∀(I:Nat),(∀n,(ag0 A1).testBit n=true->I.testBit n=true)-> ∀n,(ag0 A1).testBit n=true->ab0 I n=false:=fun I h n hn=>by unfold ab0;rw[h n hn];rfl
 rw [  J (es := e2 ::   V) (fun e he hn => by
   rcases bD9.1 he with rfl|h
   ·exact absurd n2 hn
   ·exact O e h hn) (u _ fun n h=>by simp only[Nat.testBit_or,h,Bool.true_or]),
  K (es:=e4::e3::W) (fun e he hn=>by
   rcases bD9.1 he with rfl|h
   ·exact absurd n4 hn
   ·exact U e h hn) (u _ fun n h=>by simp only[Nat.testBit_or,h,Bool.true_or])]
 refine⟨rfl,by rw[w2,z2,y2,x2],fun k=>?_⟩
 rw[w1,z1,y1,x1]
 by_cases hi:k=i
 ·rw[bC3 hi,bC1 (fun e=>E (hi.symm.trans e)),bC3 hi]
 ·rw[bC1 hi,bC1 hi]
end
theorem bq9 {α:Type}{l:List α}(h:x<y)(hl:l.length=y+1):l=l.take x++l[x]::((l.drop (x+1)).take (y-x-1)++ [l[y]]):=by
 have d:(l.drop (x+1)).take (y-x-1)++ [l[y]]=l.drop (x+1):=by
  have: [l[y]]=(l.drop (x+1)).drop (y-x-1):=by
   rw[List.drop_drop,show x+1+(y-x-1)=y by omega,List.drop_eq_getElem_cons (by omega),List.drop_eq_nil_of_le (by omega)]
  rw[this,bI8]
 rw[d,<-List.drop_eq_getElem_cons (by omega),bI8]
theorem br0 {α:Type}{l:List α}(h:x<y)(hl:l.length=y+1):l=l.take x++((l.drop x).take (y-x-1)++ [l[y-1],l[y]]):=by
 have d:(l.drop x).take (y-x-1)++ [l[y-1],l[y]]=l.drop x:=by
  have: [l[y-1],l[y]]=(l.drop x).drop (y-x-1):=by
   rw[List.drop_drop,show x+(y-x-1)=y-1 by omega,List.drop_eq_getElem_cons (by omega)]
   have:l.drop (y-1+1)=[l[y]]:=by
    rw[show y-1+1=y by omega,List.drop_eq_getElem_cons (by omega),List.drop_eq_nil_of_le (by omega)]
   rw[this]
  rw[this,bI8]
 rw[d,bI8]
def bn9 :List Nat->List Nat->Bool
 | [],[]=>true
 |a::l,b::m=>Nat.beq a b&&bn9 l m
 |_,_=>false
theorem bb8 :∀ {l m:List Nat},bn9 l m=true->l=m
 | [],[],_=>rfl
 | [],_::_,h=>by cases h
 |_::_,[],h=>by cases h
 |a::l,b::m,h=>by
  simp only[bn9,bA2,bE1]at h;rw[h.1,bb8 h.2]
def aK4 :Op->Option (Operand×Operand)
 | .store _ a v=>some (a,v)
 |_=>none
variable {a:Operand}
theorem aG6 {o:Op}{v:Operand}(h:aK4 o=some (a,v)):∃t,o= .store t a v:=by
 unfold aK4 at h;split at h
 ·cases h;exact⟨_,rfl⟩
 ·cases h
def an5 (B:List Oper):Operand->Bool
 | .tmp t=>B.all fun o=> !(ba7 o t)
 |_=>true
theorem aF3 {B:List Oper}(h:an5 B a=true)(k:Nat)(d:a= .tmp k)(o:Oper)(p:o∈B):o.dst≠some k:=by
 subst d;unfold an5 at h;have:=bD1.1 h o p;unfold ba7 at this;intro e;rw[e]at this;simp at this
def be9 (u v:Option Value):Bool:=match u,v with
 |some (.pointer (some ⟨i,_,none⟩)),some (.pointer (some ⟨j,_,none⟩))=> !(Nat.beq i j)
 |_,_=>false
theorem bt9 {u v:Option Value}(h:be9 u v=true):∃i o j o',u=some (.pointer (some ⟨i,o,none⟩))/\v=some (.pointer (some ⟨j,o',none⟩))/\i≠j:=by
 unfold be9 at h;split at h
 ·rename_i i o j o'
  exact⟨i,o,j,o',rfl,rfl,fun e=>by rw[e]at h;simp at h⟩
 ·cases h
def an6 (all1 all2 : List Oper) (x y : Nat) : Option (Operand × Operand) :=
 bif Nat.beq all1.length (y + 1) && Nat.blt x y && (all1.all fun o => o.guard.isNone) && Nat.beq (p9 all1 []).length (y + 1) && Nat.beq (p9 all2 []).length (y + 1) && bn9 ((p9 all1 []).take x) ((p9 all2 []).take x) &&
   (((all1.drop (x+1)).take (y-x-1)).all fun o=>Nat.beq (c6 o.op) 0)&&((all1.take x).zipIdx.all fun p=> !(Nat.beq (c6 p.1.op) 2)|| (ag0 ((all1.zip (p9 all1 [])).take x)).testBit p.2)then
  match all1[x]?,all1[y]? with
  |some ox,some oy=>match aK4 ox.op,aK4 oy.op with
   |some (a,v),some (a',_)=>bif ox.dst.isNone&&oy.dst.isNone&&an5 ((all1.drop (x+1)).take (y-x-1)) a&&an5 ((all1.drop (x+1)).take (y-x-1)) v then some (a,a')else none
   |_,_=>none
  |_,_=>none
 else none
section
variable {P :Program}{call:c8}{nt nx0:Nat}
variable {tm:T Value}
theorem aH0 {all:List Oper}{hp:Hp}{r:T Value×Hp}(h:F8 P call nt all tm hp=some r):∃d,xgo P call nt all hp.nx (all.zip (p9 all [])) 0 tm ⟨hp.m,hp.nx+all.length⟩ 0 []=some d/\r=(d.tm,takes hp.nx (ab0 d.I) d.es d.S):=by
 unfold F8 at h;cases hs:stat all (p9 all [])with
 |false=>rw[hs]at h;cases h
 |true=>
  rw[hs,bB8]at h;split at h
  ·rename_i d o
   cases hd:dyn P ⟨hp.m,hp.nx+all.length⟩ d.es with
   |false=>rw[hd]at h;cases h
   |true=>rw[hd,bB8,bA1]at h;exact⟨d,o,h.symm⟩
  ·cases h
set_option maxHeartbeats 1000000 in
theorem bh0 {ops : Array Oper} {x y : Nat} {g  E : Ground} {a a' : Operand}  {hp : Hp} { R r2 : T Value × Hp} (hp' : an6 (c7 ops x y g).toList (moveLast (c7 ops y x  E) x).toList x y = some (a, a'))
  (h1:F8 P call nt (c7 ops x y g).toList tm hp=some R) (h2:F8 P call nt (moveLast (c7 ops y x E) x).toList tm hp=some r2) (hd:be9 (a8 R.1 a) (a8 R.1 a')=true):
  r2.1=R.1/\r2.2.nx=R.2.nx/\ ∀k,r2.2.m.get k=R.2.m.get k:=by
 obtain⟨al,h1,rfl⟩:=aH0 h1;obtain⟨ao,h2,rfl⟩:=aH0 h2;have ab:(c7 ops x y g).toList.length=ops.size:=by simp[c7]
 have C:(c7 ops y x E).size=ops.size:=by simp[c7]
 unfold an6 at hp';generalize hb : (Nat.beq (c7 ops x y g).toList.length (y + 1) && Nat.blt x y && ((c7 ops x y g).toList.all fun o => o.guard.isNone) && Nat.beq (p9 (c7 ops x y g).toList []).length (y + 1) && Nat.beq (p9 (moveLast (c7 ops y x  E) x).toList []).length (y + 1) && bn9 ((p9 (c7 ops x y g).toList []).take x) ((p9 (moveLast (c7 ops y x  E) x).toList []).take x) &&
   ((((c7 ops x y g).toList.drop (x+1)).take (y-x-1)).all fun o=>Nat.beq (c6 o.op) 0)&&(((c7 ops x y g).toList.take x).zipIdx.all fun p=> !(Nat.beq (c6 p.1.op) 2)|| (ag0 (((c7 ops x y g).toList.zip (p9 (c7 ops x y g).toList [])).take x)).testBit p.2))=b at hp'
 cases b with
 |false=>cases hp'
 |true=>
 rw[bB8]at hp';simp only[bA2,bE1]at hb;obtain⟨⟨⟨⟨⟨⟨⟨b1,b2⟩,b3⟩,b4⟩,b5⟩,b6⟩,b7⟩,b8⟩:=hb;have J:x<y:=bA5 b2;have b6:=bb8 b6;have hn:ops.size=y+1:=by rw[<-ab];exact b1
 have ac:x<(c7 ops y x E).size:=by omega
 have M:(moveLast (c7 ops y x E) x).toList.length=y+1:=by rw[Array.length_toList,R1 ac,C,hn]
 have ae:∀k o,(c7 ops x y g).toList[k]? =some o-> ∃o2,(moveLast (c7 ops y x E) x).toList[M0 x (y+1) k]? =some o2/\o2.op=o.op/\o2.dst=o.dst/\(o.guard=none->o2.guard=none):=by
  intro k o G;have hk:k<y+1:=by rw[<-b1];exact(bA4.1 G).1
  have hl:M0 x (y+1) k<(c7 ops y x E).size:=by rw[C,hn];exact ak0 hk
  rw[Array.getElem?_toList,I6]at G;rw[Array.getElem?_toList,N4 ac hl,C,hn,T6 hk,I6];cases V:ops[k]? with
  |none=>rw[V]at G;split at G<;>cases G
  |some o0=>
   rw[V]at G;have q:o.op=o0.op/\o.dst=o0.dst/\o.guard=o0.guard:=by
    split at G<;>(simp only[bE6,bA1]at G;subst G;exact⟨rfl,rfl,rfl⟩)
   split
   ·exact⟨_,rfl,q.1.symm,q.2.1.symm,fun h=>by rw[q.2.2]at h;simp[an8,h]⟩
   ·exact⟨_,rfl,q.1.symm,q.2.1.symm,fun h=>by rw[q.2.2]at h;simp[an8,h]⟩
 generalize (c7 ops x y g).toList=d at*;generalize (moveLast (c7 ops y x E) x).toList=all2 at*;generalize ap:p9 d []=r at*;generalize aq:p9 all2 []=u at*;have l1:(d.zip r).length=y+1:=by rw[List.length_zip,b1,b4,Nat.min_self]
 have l2:(all2.zip u).length=y+1:=by rw[List.length_zip,M,b5,Nat.min_self]
 have K:∀k (h:k<y+1),(d.zip r)[k]=(d[k],r[k]):=fun k h=>List.getElem_zip
 have O:∀k (h:k<y+1),(all2.zip u)[k]=(all2[k],u[k]):=fun k h=>List.getElem_zip
 have z:∀k (h:k<y+1) (h':M0 x (y+1) k<y+1),all2[M0 x (y+1) k].op=d[k].op/\all2[M0 x (y+1) k].dst=d[k].dst/\(d[k].guard=none->all2[M0 x (y+1) k].guard=none):=by
  intro k h h';obtain⟨o2,k1,k2⟩:=ae k d[k] (by simp)
  rw[bB3 (by omega),bA1]at k1
  rw[k1];exact k2
 have U:∀k (h:k<y+1),d[k].guard=none:=fun k h=>by
  have:=bD1.1 b3 d[k] (List.getElem_mem _)
  simpa using this
 have ah:∀k (h:k<y+1),all2[k].guard=none:=by
  intro k h;have e:=aQ2 (x:=x) h;have hp:=aW6 (x:=x) (n:=y+1) (by omega) h
  have:=(z (piL x (y+1) k) hp (by rw[e];exact h)).2.2 (U _ hp)
  simpa only[e]using this
 rw[bq9 J l1]at h1;rw[br0 J l2]at h2;split at hp'
 rotate_left
 ·cases hp'
 rename_i ox oy W X;split at hp'
 rotate_left
 ·cases hp'
 rename_i a0 v ad v' ak Y;cases hc:ox.dst.isNone&&oy.dst.isNone&&an5 ((d.drop (x+1)).take (y-x-1)) a0&&an5 ((d.drop (x+1)).take (y-x-1)) v with
 |false=>rw[hc]at hp';cases hp'
 |true=>
 rw[hc,bB8,bA1,bA3]at hp';obtain⟨rfl,rfl⟩:=hp';simp only[bA2,Option.isNone_iff_eq_none]at hc;obtain⟨⟨⟨c1,c2⟩,c3⟩,c4⟩:=hc;obtain⟨t,Z⟩:=aG6 ak;obtain⟨t',aa⟩:=aG6 Y;have ex:d[x]=ox:=by rw[bB3 (by omega)]at W;exact bC7 W
 have ey:d[y]=oy:=by rw[bB3 (by omega)]at X;exact bC7 X
 have rx:M0 x (y+1) x=y:=by unfold M0;rw[bC1 (by omega),bC3 rfl];omega
 have ry:M0 x (y+1) y=y-1:=by unfold M0;rw[bC1 (by omega),bC1 (by omega),bC3 (by omega)]
 have qx:=z x (by omega) (by omega)
 have qy:=z y (by omega) (by omega)
 simp only[rx]at qx;simp only[ry]at qy;obtain⟨i,o,j,o',d1,d2,d3⟩:=bt9 hd;have N:∀p∈((d.zip r).drop (x+1)).take (y-x-1),p.1∈(d.drop (x+1)).take (y-x-1):=by
  intro p hp;obtain⟨k,hk⟩:=bF5.1 hp;rw[bD4]at hk;split at hk
  ·rename_i hlt
   rw[bE0,bB3 (by omega),K _ (by omega),bA1]at hk
   subst hk;refine bF5.2 ⟨k,?_⟩;rw[bD4,bC3 hlt,bE0,bB3 (by omega)]
  ·cases hk
 refine bs6 (P:=P) (call:=call) (nt:=nt) (nx0:=hp.nx) (X1:=(d.zip r)[x]) (X2:=(all2.zip u)[y]) (Y1:=(d.zip r)[y]) (Y2:=(all2.zip u)[y-1]) (t:=t) (t':=t') (a:=a0) (v:=v) (a':=ad) (v':=v') ?_ ?_ ?_ ?_ ?_ ?_ ?_ ?_ ?_ ?_ ?_ ?_ ?_ ?_ ?_ ?_ h1 (by rw[M,<-b1]at h2;exact h2) d1 d2 d3
 ·rw[<-bq9 J l1]
  intro p hp;obtain⟨k,hk,rfl⟩:=List.mem_iff_getElem.1 hp;rw[K k (by omega)];exact U k (by omega)
 ·rw[<-br0 J l2]
  intro p hp;obtain⟨k,hk,rfl⟩:=List.mem_iff_getElem.1 hp;rw[O k (by omega)];exact ah k (by omega)
 ·refine List.ext_getElem (by simp[l1,l2]) fun k hk ai=>?_
  have A:k<x:=by simp at hk;omega
  simp only[List.getElem_map,List.getElem_take];rw[K k (by omega),O k (by omega)]
  have rk:M0 x (y+1) k=k:=by unfold M0;rw[bC3 A]
  have q:=z k (by omega) (by omega)
  simp only[rk]at q;have aj:r[k]=u[k]:=by
   have:(r.take x)[k]? =(u.take x)[k]? :=by rw[b6]
   rw[bD4,bD4,bC3 A,bC3 A,bB3 (by omega),bB3 (by omega)]at this
   exact bC7 this
  unfold be8;rw[q.1,q.2.1,aj]
 ·refine List.ext_getElem (by simp[l1,l2];omega) fun k hk ai=>?_
  have A:k<y-x-1:=by simp at hk;omega
  simp only[List.getElem_map,List.getElem_take,List.getElem_drop];rw[K _ (by omega),O _ (by omega)]
  have rk:M0 x (y+1) (x+1+k)=x+k:=by unfold M0;rw[bC1 (by omega),bC1 (by omega),bC3 (by omega)];omega
  have q:=z (x+1+k) (by omega) (by omega)
  simp only[rk]at q;rw[q.1,q.2.1]
 ·intro p hp
  exact bA6 (bD1.1 b7 _ (N p hp))
 ·intro k p hp hk
  rw[bD4]at hp;split at hp
  ·rename_i A
   rw[bB3 (by omega),K k (by omega),bA1]at hp
   rw[<-hp]at hk;have:=bD1.1 b8 (d[k],k) (by
    refine bF5.2 ⟨k,?_⟩;rw[List.getElem?_zipIdx,bD4,bC3 A,bB3 (by omega)]
    simp)
   simp only[bH6,bE7]at this;simp only at hk
   rcases this with h|h
   ·rw[hk]at h;cases h
   ·exact h
  ·cases hp
 ·exact(congrArg (fun p=>p.1.op) (K x (by omega))).trans ((congrArg Oper.op ex).trans Z)
 ·exact(congrArg (fun p=>p.1.op) (O y (by omega))).trans (qx.1.trans ((congrArg Oper.op ex).trans Z))
 ·exact(congrArg (fun p=>p.1.op) (K y (by omega))).trans ((congrArg Oper.op ey).trans aa)
 ·exact(congrArg (fun p=>p.1.op) (O (y-1) (by omega))).trans (qy.1.trans ((congrArg Oper.op ey).trans aa))
 ·exact(congrArg (fun p=>p.1.dst) (K x (by omega))).trans ((congrArg Oper.dst ex).trans c1)
 ·exact(congrArg (fun p=>p.1.dst) (O y (by omega))).trans (qx.2.1.trans ((congrArg Oper.dst ex).trans c1))
 ·exact(congrArg (fun p=>p.1.dst) (K y (by omega))).trans ((congrArg Oper.dst ey).trans c2)
 ·exact(congrArg (fun p=>p.1.dst) (O (y-1) (by omega))).trans (qy.2.1.trans ((congrArg Oper.dst ey).trans c2))
 ·exact fun k hk p hp=>aF3 c3 k hk _ (N p hp)
 ·exact fun k hk p hp=>aF3 c4 k hk _ (N p hp)
end
def at5 (nt:Nat)(s:Option (Operand×Operand))(r1 r2:T Value×Hp):Option (T Value×Hp):=match s with
 |some (a,a')=>bif be9 (a8 r1.1 a) (a8 r1.1 a')then some r1 else at9 nt r1 r2
 |none=>at9 nt r1 r2
theorem ai5  {B : BS} {w0 : World} {call : c8} {nt:Nat}  { p:Ground} {tm0 tm : T Value} {hp0 hp : Hp} { d  o : T Value × Hp} (h1 : F8 P call nt (c7 ops x y g).toList tm0 hp0 = some  d) (h2 : F8 P call nt (moveLast (c7 ops y x  p) x).toList tm0 hp0 = some  o)
  (h:at5 nt (an6 (c7 ops x y g).toList (moveLast (c7 ops y x p) x).toList x y) d o=some (tm,hp)) {σ:Sg} {e:Exit} {D:List Deferred} {e':Exit} {c:Act}:
  (Y6 n B w0 σ nt e d.1 d.2 D e' c w->Y6 n B w0 σ nt e tm hp D e' c w)/\(Y6 n B w0 σ nt e o.1 o.2 D e' c w->Y6 n B w0 σ nt e tm hp D e' c w):=by
 unfold at5 at h;split at h
 ·rename_i a a' hs
  cases hd:be9 (a8 d.1 a) (a8 d.1 a')with
  |false=>rw[hd]at h;exact aj5 h
  |true=>
   rw[hd,bB8,bA1]at h;subst h;obtain⟨q1,q2,u⟩:=bh0 hs h1 h2 hd
   replace q1:o.1=tm:=q1
   replace q2:o.2.nx=hp.nx:=q2
   refine⟨id,fun⟨k1,k2,σ',k3,r,t⟩=>⟨k1,k2,σ',by rw[<-q2];exact k3,by rw[<-q1];exact r,t.sub (Nat.le_of_eq q2) fun i b q=>by rw[u];exact q⟩⟩
 ·exact aj5 h
def bs1 (P:Program)(call:c8)(nt:Nat)(ops:Array Oper)(tm:T Value)(hp:Hp)(x y:Nat):Option (T Value×Hp):=
 bif av1 0 ops.toList&&Nat.blt x ops.size&&Nat.blt y ops.size&& !(Nat.beq x y)then
  match F8 P call nt (c7 ops x y .data).toList tm hp with
  |some r1=>match F8 P call nt (moveLast (c7 ops y x .data) x).toList tm hp with
   |some r2=>at5 nt (an6 (c7 ops x y .data).toList (moveLast (c7 ops y x .data) x).toList x y) r1 r2
   |none=>none
  |none=>none
 else none
def i8 (P:Program):F9:=fun call nt all tm hp=>
 match F8 P call nt all tm hp with
 |some r=>some r
 |none=>match an1 all with
  |some (x,y)=>bs1 P call nt all.toArray tm hp x y
  |none=>none
theorem ao6 (hm:P.follows .mixedOrders=true):U7 P (i8 P):=by
 intro call d nt ops id tm hp tm' hp' h B w0 σ a w ht K r;unfold i8 at h;split at h
 ·rename_i V hr
  cases h;exact bs4 hm call d nt ops id tm hp tm' hp' hr B w0 σ a w ht K r
 ·split at h
  ·rename_i x y _
   unfold bs1 at h;cases hb:av1 0 ops.toList.toArray.toList&&Nat.blt x ops.toList.toArray.size&&Nat.blt y ops.toList.toArray.size&& !(Nat.beq x y)with
   |false=>grind
   |true=>
    rw[hb,bB8]at h;have e0:ops.toList.toArray=ops:=by simp
    rw[e0]at h hb;simp only[bA2,bE7]at hb;obtain⟨⟨⟨N,W⟩,X⟩,M⟩:=hb;have hx:x<ops.size:=by simp_all
    have hy:y<ops.size:=by simp_all
    have J:x≠y:=fun e=>by rw[e]at M;simp at M
    have u:∀(i:Nat) o,ops[i]? =some o-> ∀e∈o.after,Region.binds .any e=true->e.on<i:=by
     intro i o O e he E;have:=aD4 N i o (by simpa using O) e he E
     omega
    split at h
    ·rename_i V h1
     split at h
     ·rename_i Y h2
      refine wpIn_region_draw fun t=>?_
      rw[hm];have hl:=as6 u t
      rcases hl.first hx hy J with⟨T,U,e,p⟩| ⟨T,U,e,p⟩
      ·
       rw[e]at hl⊢;have q:=hl.edge (g:= .data) p;have C:=ao7 (B:=B) (w0:=w0) d (ops:=c7 ops x y .data) h1 ht K r;have v:=al2 q _ [] _ _ _ _ rfl (by simp[c7]) (fun j hj=>by simp[c7]at hj⊢;simp[hj]) C
       have A:=K9 (fun e' a' w' hq=>(ai5 h1 h2 h).1 hq) _ v
       refine E9 (Z4 ops x y .data) _ (fun i hi=>(hl.mem i).1 hi) ?_
       simp_all
      ·
       rw[e]at hl⊢;have q:=hl.edge (g:= .data) p;have z:(c7 ops y x .data).size=ops.size:=by simp[c7]
       have G:=q.moveLast (x:=x) (by rw[z];exact hx)
       have C:=ao7 (B:=B) (w0:=w0) d (ops:=moveLast (c7 ops y x .data) x) h2 ht K r;have v:=al2 G _ [] _ _ _ _ rfl (by simp) (fun j hj=>by simp[hj]) C
       have A:=K9 (fun e' a' w' hq=>(ai5 h1 h2 h).2 hq) _ v
       have R:=E9 (au9 (ops:=c7 ops y x .data) (x:=x) (by rw[z];exact hx)) _ (fun i hi=>(q.mem i).1 hi) A
       refine E9 (Z4 ops y x .data) _ (fun i hi=>(hl.mem i).1 hi) ?_
       simp_all
     ·cases h
    ·cases h
  ·cases h
def exec (P:Program)(ov:FuncId->Option TypeId)(n:Nat):c8:=S6 P (i8 P) ov n
theorem aI0 (hm:P.follows .mixedOrders=true){ov:FuncId->Option TypeId}(d:∀g t,ov g=some t->Z2 P g t)(n:Nat):B5 P (exec P ov n):=aM7 (ao6 hm) d n
end Go.Xe
end PartXmD
noncomputable section PartXm16
namespace Go.Xe
open Go.RowKit
def yes (r:Option (Value×Hp)):Bool:=
 match r with
 |some (.bool b,_)=>b
 |_=>false
def Hp.empty :Hp:=⟨.e,0⟩
theorem HR.start (w:World):HR (BS.below w) w (fun _=>none) Hp.empty w:=
 ⟨rfl,rfl,rfl,bC4 _,fun _ (h:_<_)=>h,fun _ _=>rfl,fun _ _=>rfl,fun i b h=>by simp[Hp.empty,T.get_e]at h,fun i j b b' p q h=>by simp[Hp.empty,T.get_e]at h⟩
theorem HR.toBelow {σ:Sg}{hp:Hp}{w w':World}(h:HR (BS.below w) w σ hp w'):Below w.heap.size w w':=
 ⟨h.os,h.tape,h.output,h.size,h.kept⟩
def noOv :FuncId->Option TypeId:=fun _=>none
variable {P:Program}
theorem bu8 :∀g t,noOv g=some t->Z2 P g t:=fun _ _ h=>by cases h
def aj0 (P:Program)(g:FuncId):Func:=(P.funcs[g]?).getD {name:= "",origin:= "",params:= #[],resultTypes:= #[],nfree:=0,ntmps:=0,results:= #[],body:=none,norace:=false,tmpNames:= #[]}
variable {g:FuncId}
theorem Z2.of   {t : TypeId} (r : TypeId) (h0 : (P.funcs[g]?).isSome = true) (h1 : ((aj0 P g).name == "runtime.NumGoroutine") = false) (h2 : (aj0 P g).body.isNone = true)
  (h3:Extern.findNext (aj0 P g)=none) (h4:Extern.find (aj0 P g)=some (Extern.SlicesOverlaps.overlaps #[t,t] #[r])) (d:t≠af4:=by decide):Z2 P g t:=by
 refine .inr ⟨d,aj0 P g,r,?_,h1,h2,h3,h4⟩;unfold aj0;cases h:P.funcs[g]? with
 |none=>rw[h]at h0;cases h0
 |some fn=>rfl
def aC0 (g0:FuncId)(t0:TypeId)(rest:FuncId->Option TypeId):FuncId->Option TypeId:=fun g=>bif Nat.beq g g0 then some t0 else rest g
theorem bb9 {o:FuncId}{t0:TypeId}{rest:FuncId->Option TypeId}(h:Z2 P o t0)(hr:∀g t,rest g=some t->Z2 P g t):∀g t,aC0 o t0 rest g=some t->Z2 P g t:=by
 intro g t d;unfold aC0 at d;cases hb:Nat.beq g o with
 |true=>
  rw[hb,bB8,bA1]at d;rw[bA6 hb,<-d];exact h
 |false=>rw[hb,bB9]at d;exact hr g t d
theorem bv1 (h:aU2 P g):Z2 P g af4:= .inl ⟨rfl,h⟩
end Go.Xe
end PartXm16
noncomputable section PartXm17
namespace Go.Xe
open Go.RowKit
section
open Go.ChangeShapes
variable {H :Type}{enc:TypeId×Value->H}{P:Program}{w:World}{base:Nat}{spare:Nat->Bool}{held:Bool}
end
end Go.Xe
end PartXm17
noncomputable section PartXm18
namespace Go.Xe
open Go.RowKit
def aw0 :Code->List Code
 | .seq a b=>aw0 a++aw0 b
 | .scope a=>aw0 a
 |c=>[c]
def wpL (P:Program):List Code->(Exit->Act->World->Prop)->Act->World->Prop
 | [],Q=>fun a w=>Q .normal a w
 |c::cs,Q=>c.wpIn (RF none) 0 P (Exit.then (wpL P cs Q) Q)
variable {P:Program}{Q:Exit->Act->World->Prop}
theorem br7 (hq:∀l a w,¬Q (.goto l) a w):∀(c:Code) (cs:List Code) (a:Act) (w:World),wpL P (aw0 c++cs) Q a w->c.wpIn (RF none) 0 P (Exit.then (wpL P cs Q) Q) a w:=by
 intro c
 induction c with
 |seq x y d o=>
  intro cs a w h;rw[aw0,bB5]at h;refine wpIn_seq (bJ6 (d _ a w h) fun e a' w' hq=>?_)
  cases e<;>first|exact hq|exact o _ _ _ hq
 |scope x d=>
  intro cs a w h;rw[aw0]at h;refine N2 (bJ6 (d _ a w h) fun e a' w' hh=>?_)
  cases e with
  |goto l=>exact hq l a' w' hh
  |_=>exact hh
 |_=>intro cs a w h;exact h
variable {c:Code}
theorem aY8 (hq:∀l a w,¬Q (.goto l) a w){a:Act}{w:World}(h:wpL P (aw0 c) Q a w):c.wpIn (RF none) 0 P Q a w:=by
 rw[<-bI5 (aw0 c)]at h;refine bJ6 (br7 hq c [] a w h) fun e a' w' hq=>?_
 cases e<;>exact hq
theorem ab5 {P:Program}{Q d:Exit->Act->World->Prop}(hq:∀e a w,Q e a w->d e a w):∀(cs:List Code) {a:Act} {w:World},wpL P cs Q a w->wpL P cs d a w
 | [],_,_,h=>hq _ _ _ h
 |c::cs,_,_,h=>bJ6 h fun e a' w' hh=>by cases e<;>first|exact ab5 hq cs hh|exact hq _ _ _ hh
theorem aA2 {P:Program}{Q:Exit->Act->World->Prop}:∀(cs ds:List Code) {a:Act} {w:World},wpL P cs (Exit.then (wpL P ds Q) Q) a w->wpL P (cs++ds) Q a w
 | [],_,_,_,h=>h
 |c::cs,ds,_,_,h=>bJ6 h fun e a' w' hh=>by cases e<;>first|exact aA2 cs ds hh|exact hh
def O2 (P:Program)(nt n0:Nat)(cs:List Code)(tm:T Value)(hp:Hp)(e:Exit)(tm':T Value)(hp':Hp):Prop:=
 ∀B w0 σ a w,TR σ nt tm a.tmps->HR B w0 σ hp w->a.defers=[]->wpL P cs (fun e' a' w'=>e'=e/\a'.defers=[]/\ ∃σ',(∀i,i<n0->σ' i=σ i)/\TR σ' nt tm' a'.tmps/\HR B w0 σ' hp' w') a w
variable {n0 nt:Nat}{tm:T Value}{hp:Hp}
theorem O2.append {cs ds:List Code}{tm1 d:T Value}{hp1 hp2:Hp}{e:Exit}(h:O2 P nt n0 cs tm hp .normal tm1 hp1)(k:O2 P nt n0 ds tm1 hp1 e d hp2):O2 P nt n0 (cs++ds) tm hp e d hp2:=by
 intro B w0 σ a w ht A hd;refine aA2 cs ds (ab5 ?_ cs (h B w0 σ a w ht A hd))
 rintro _ a' w' ⟨rfl,o,σ',hl,r,u⟩
 refine ab5 ?_ ds (k B w0 σ' a' w' r u o)
 rintro _ a2 C ⟨rfl,p,z,q,t,v⟩
 exact⟨rfl,p,z,fun i hi=>(q i hi).trans (hl i hi),t,v⟩
def aA8 (P:Program)(dr:F9)(call:c8)(nt m:Nat):List Code->T Value->Hp->Option XR
 | [],tm,hp=>some (.mk .normal tm hp [])
 |c::cs,tm,hp=>match d7 P dr call nt none m c tm hp []with
  |some (.mk .normal tm' hp' [])=>aA8 P dr call nt m cs tm' hp'
  |some (.mk .normal _ _ (_::_))=>none
  |r=>r
theorem DsR.nil {σ:Sg}{D:List Deferred}(h:DsR σ [] D):D=[]:=by
 cases D with
 |nil=>rfl
 |cons d D=>exact h.elim
theorem ah7 {P : Program} {dr : F9} {call : c8} (    o : B5 P call) (  t : U7 P dr) {nt m n0 : Nat} : ∀ (cs : List Code) {tm : T Value} {hp : Hp} {e : Exit} {tm' : T Value} {hp' : Hp},
  aA8 P dr call nt m cs tm hp=some (.mk e tm' hp' [])->n0<=hp.nx->O2 P nt n0 cs tm hp e tm' hp'
 | [],tm,hp,e,tm',hp',h,_=>by
  simp only[aA8,bA1,XR.mk.injEq]at h;obtain⟨rfl,rfl,rfl,_⟩:=h;exact fun B w0 σ a w ht G hd=>⟨rfl,hd,σ,fun _ _=>rfl,ht,G⟩
 |c::cs,tm,hp,e,tm',hp',h,C=>by
  intro B w0 σ a w ht G hd;simp only[aA8]at h;cases hx:d7 P dr call nt none m c tm hp []with
  |none=>rw[hx]at h;cases h
  |some r=>
   obtain⟨M,tm1,hp1,p⟩:=r;refine bJ6 ((M2 (B:=B) (w0:=w0) o t m).1 c tm hp [] M tm1 hp1 p σ a w none hx ht G (by rw[hd];trivial) trivial) fun e' a' w' hq=>?_
   obtain⟨rfl,σ',gr,q,u,v⟩:=hq;rw[hx]at h;cases e' with
   |normal=>
    cases p with
    |nil=>
     refine ab5 ?_ cs (ah7 o t cs h (bF8 C gr.nx) B w0 σ' a' w' u v q.nil)
     rintro _ a2 N ⟨rfl,z,K,A,E,J⟩
     exact⟨rfl,z,K,fun i hi=>(A i hi).trans (gr.low i (by omega)),E,J⟩
    |cons d ds=>cases h
   |_=>
    simp only[bA1,XR.mk.injEq]at h;obtain⟨rfl,rfl,rfl,rfl⟩:=h;exact⟨rfl,q.nil,σ',fun i hi=>gr.low i (by omega),u,v⟩
def Z3 (P:Program)(nt n0 m:Nat)(c:Code)(tm:T Value)(hp:Hp)(e:Exit)(tm':T Value)(hp':Hp):Prop:=
 ∀B w0 σ a w,TR σ nt tm a.tmps->HR B w0 σ hp w->a.defers=[]->Code.roundsIn (RF none) 0 P c (fun e' a' w'=>e'=e/\a'.defers=[]/\ ∃σ',(∀i,i<n0->σ' i=σ i)/\TR σ' nt tm' a'.tmps/\HR B w0 σ' hp' w') m a w
variable {tm':T Value}
theorem Z3.runs {m:Nat}{hp':Hp}{e:Exit}(h:Z3 P nt n0 m c tm hp e tm' hp')(he:e≠ .normal):O2 P nt n0 [.loop c] tm hp e tm' hp':=by
 intro B w0 σ a w ht o hd;refine bJ6 (wpIn_loop_rounds m (h B w0 σ a w ht o hd)) fun e' a' w' hq=>?_
 obtain⟨rfl,d⟩:=hq;cases e' with
 |normal=>exact absurd rfl he
 |_=>exact⟨rfl,d⟩
theorem O2.block {id:Nat}{hp':Hp}(h:O2 P nt n0 [c] tm hp (.exit id) tm' hp'):O2 P nt n0 [.block id c] tm hp .normal tm' hp':=by
 intro B w0 σ a w ht d hd;refine wpIn_block (bJ6 (h B w0 σ a w ht d hd) fun e' a' w' hq=>?_)
 cases e' with
 |normal=>obtain⟨h1,_⟩:=hq;cases h1
 |exit j=>
  obtain⟨h1,h2,h3⟩:=hq;cases h1;simp only[Exit.inBlock,bI6];exact⟨rfl,h2,h3⟩
 |_=>obtain⟨h1,_⟩:=hq;cases h1
end Go.Xe
end PartXm18
noncomputable section PartXm19
namespace Go.Xe
open Go.RowKit
inductive Bl where
 |cells (n:Nat) (vs:List Value) (elem esz:Nat)
 |map (es:List (Value×Value)) (reg:Bool)
 |gone
structure St where
 tms:List Value
 bls:List Bl
def Bl.blk :Bl->Option Blk
 | .cells n vs e z=>some (.cells (fill .e 0 vs) n e z)
 | .map es reg=>some (.map es reg)
 | .gone=>none
def aN1 (c:T Blk):Nat->List Bl->T Blk
 |_,[]=>c
 |k,b::bs=>aN1 (c.set k b.blk) (k+1) bs
def ai9 (c:T Nat):Nat->List Nat->T Nat
 |_,[]=>c
 |k,v::vs=>ai9 (c.set k (some v)) (k+1) vs
def St.tm (s:St):T Value:=fill .e 0 s.tms
def St.hp (s:St):Hp:=⟨aN1 .e 0 s.bls,s.bls.length⟩
variable {x:Bl}{b:Blk}
theorem Bl.blk_ro (h:x.blk=some b):P4 b=false:=by
 cases x<;>cases h<;>rfl
theorem bf2 :∀(vs:List Bl) (c:T Blk) (k j:Nat),(aN1 c k vs).get j=if k<=j/\j<k+vs.length then(vs[j-k]?).bind Bl.blk else c.get j:=by
 intro vs
 induction vs with
 |nil=>intro c k j;simp only[aN1,bJ8,bG6];rw[bC1 (by omega)]
 |cons v vs d=>
  intro c k j;simp only[aN1,d,T.get_set,bE4]
  by_cases h1:j=k
  ·subst h1;rw[bC1 (by omega),bC3 rfl,bC3 (by omega)];simp
  ·by_cases h2:k+1<=j/\j<k+1+vs.length
   ·rw[bC3 h2,bC3 (by omega)]
    have:j-k=(j-(k+1))+1:=by omega
    rw[this];simp
   ·rw[bC1 h2,bC1 h1,bC1 (by omega)]
theorem bf3 :∀(vs:List Nat) (c:T Nat) (k j:Nat),(ai9 c k vs).get j=if k<=j/\j<k+vs.length then vs[j-k]? else c.get j:=by
 intro vs
 induction vs with
 |nil=>intro c k j;simp only[ai9,bJ8,bG6];rw[bC1 (by omega)]
 |cons v vs d=>
  intro c k j;simp only[ai9,d,T.get_set,bE4]
  by_cases h1:j=k
  ·subst h1;rw[bC1 (by omega),bC3 rfl,bC3 (by omega)];simp
  ·by_cases h2:k+1<=j/\j<k+1+vs.length
   ·rw[bC3 h2,bC3 (by omega)]
    have:j-k=(j-(k+1))+1:=by omega
    rw[this];simp
   ·rw[bC1 h2,bC1 h1,bC1 (by omega)]
theorem aD9 {vs:List Nat}{j:Nat}:(ai9 .e 0 vs).get j=vs[j]? :=by
 rw[bf3]
 by_cases h:j<vs.length
 ·rw[bC3 (by omega),bI0]
 ·rw[bC1 (by omega),T.get_e,bJ9 (by omega)]
theorem A0 {vs:List Value}{j:Nat}:(fill .e 0 vs).get j=vs[j]? :=by
 rw[j3]
 by_cases h:j<vs.length
 ·rw[bC3 (by omega),bI0]
 ·rw[bC1 (by omega),T.get_e,bJ9 (by omega)]
def idB (x:Option Nat)(j:Nat):Bool:=match x with|some i=>Nat.beq i j|none=>false
def adB (ρ:T Nat)(a b:Option Addr):Bool:=
 match a,b with
 |none,none=>true
 |some ⟨i,o,none⟩,some ⟨j,p,none⟩=>idB (ρ.get i) j&&Nat.beq o p
 |some ⟨i,o,some k⟩,some ⟨j,p,some l⟩=>Nat.beq i j&&Nat.beq o p&&Nat.beq k l
 |_,_=>false
def vm (ρ:T Nat):Nat->Value->Value->Bool
 |0,_,_=>false
 |n+1,x,y=>match x,y with
  | .bool a,.bool b=>a==b
  | .int j a,.int k b=>decide (j=k)&&decide (a=b)
  | .string a,.string b=>a.data.toList==b.data.toList
  | .pointer a,.pointer b=>adB ρ a b
  | .slice a l c,.slice b l' c'=>adB ρ a b&&Nat.beq l l'&&Nat.beq c c'
  | .map none,.map none=>true
  | .map (some i),.map (some j)=>idB (ρ.get i) j
  | .nilFunc,.nilFunc=>true
  | .nilIface,.nilIface=>true
  | .iface t v,.iface u w=>Nat.beq t u&&vm ρ n v w
  | .agg a,.agg b=>Q7 (vm ρ n) a.toList b.toList
  | .tuple a,.tuple b=>Q7 (vm ρ n) a.toList b.toList
  | .func f a c,.func g b d=>decide (f=g)&&Q7 (vm ρ n) a.toList b.toList&&Q7 (vm ρ n) c.toList d.toList
  | .complex f a b,.complex g c d=>decide (f=g)&&Nat.beq a c&&Nat.beq b d
  | .chan (some i),.chan (some j)=>idB (ρ.get i) j
  |_,_=>false
theorem av0 {f:Value->Value->Bool}:∀ {xs ys:List Value},Q7 f xs ys=true->xs.length=ys.length/\ ∀(i:Nat) x y,xs[i]? =some x->ys[i]? =some y->f x y=true
 | [],[],_=>⟨rfl,fun i x y h=>by simp at h⟩
 | [],_::_,h=>by cases h
 |_::_,[],h=>by cases h
 |a::xs,b::ys,h=>by
  simp only[Q7,bA2]at h;obtain⟨h1,h2⟩:=av0 h.2;refine⟨by simp[h1],fun i x y hx hy=>?_⟩
  cases i with
  |zero=>simp at hx hy;subst hx;subst hy;exact h.1
  |succ i=>exact h2 i x y (by simpa using hx) (by simpa using hy)
variable {σ σ1:Sg}
theorem bd9  {f : Value → Value → Bool} ( d : ∀ x y u, f x y = true → VR σ y u → VR σ1 x u) {a b c : Array Value} (h : Q7 f a.toList b.toList = true) (h1 : b.size = c.size) (h2 : ∀ (i : Nat) x y, b[i]? = some x → c[i]? = some y → VR σ x y) :
  a.size=c.size/\ ∀(i:Nat) x y,a[i]? =some x->c[i]? =some y->VR σ1 x y:=by
 obtain⟨k1,k2⟩:=av0 h;have k1:a.size=b.size:=by rw[<-Array.length_toList,<-Array.length_toList];exact k1
 refine⟨k1.trans h1,fun i x y hx hy=>?_⟩
 have hi:i<a.size:=(bB6.1 hx).1;have hb:b[i]? =some (b[i]'(by omega)):=by simp[show i<b.size by omega]
 exact d _ _ _ (k2 i x _ (by rw[Array.getElem?_toList];exact hx) (by rw[Array.getElem?_toList];exact hb)) (h2 i _ y hb hy)
variable {ρ:T Nat}
theorem be0 (z:∀i j,ρ.get i=some j->σ1 i=σ j):∀(n:Nat) (x y u:Value),vm ρ n x y=true->VR σ y u->VR σ1 x u:=by
 have r:∀ {i j},idB (ρ.get i) j=true->σ1 i=σ j:=by
  intro i j h;unfold idB at h;split at h
  ·rename_i k hk
   rw[<-bA6 h];exact z i k hk
  ·cases h
 intro n
 induction n with
 |zero=>intro x y u h;cases h
 |succ n t=>
  intro x y u h d;simp only[vm]at h;split at h
  ·simp at h;subst h;cases d;exact .bool _
  ·simp only[bA2,bC2]at h;obtain⟨rfl,rfl⟩:=h;cases d;exact .int _ _
  ·rename_i a b
   obtain⟨⟨a⟩⟩:=a;obtain⟨⟨b⟩⟩:=b;simp at h;subst h;cases d;exact .string _
  ·rename_i a b
   unfold adB at h;split at h
   ·cases d;exact .nilp
   ·rename_i i o j p
    simp only[bA2]at h;rw[bA6 h.2];cases d with
    |ptr _ _ q hq=>exact .ptr i p q ((r h.1).trans hq)
   ·cases d
   ·cases h
  ·rename_i a l c b l' c'
   simp only[bA2]at h;rw[bA6 h.1.2,bA6 h.2]
   replace h:=h.1.1
   unfold adB at h;split at h
   ·cases d;exact .nils _ _
   ·rename_i i o j p
    simp only[bA2]at h;rw[bA6 h.2];cases d with
    |slice _ _ q _ _ A hq hc hl=>exact .slice i p q _ _ A ((r h.1).trans hq) hc hl
   ·rename_i i o k j p l
    simp only[bA2]at h;rw[bA6 h.1.1,bA6 h.1.2,bA6 h.2];cases d;exact .vague _ _
   ·cases h
  ·cases d;exact .nilm
  ·cases d with
   |map _ p hp=>exact .map _ p ((r h).trans hp)
  ·cases d;exact .nilf
  ·cases d;exact .nili
  ·simp only[bA2]at h
   rw[bA6 h.1];cases d with
   |iface _ _ u d=>exact .iface _ _ _ (t _ _ _ h.2 d)
  ·cases d with
   |agg _ ys h1 h2=>obtain⟨k1,k2⟩:=bd9 t h h1 h2;exact .agg _ _ k1 k2
  ·cases d with
   |tuple _ ys h1 h2=>obtain⟨k1,k2⟩:=bd9 t h h1 h2;exact .tuple _ _ k1 k2
  ·simp only[bA2,bC2]at h
   obtain⟨⟨rfl,v⟩,hb⟩:=h;cases d with
   |func _ _ ys _ ds h1 h2 h3 h4=>
    obtain⟨k1,k2⟩:=bd9 t v h1 h2;obtain⟨k3,C⟩:=bd9 t hb h3 h4;exact .func _ _ _ _ _ k1 k2 k3 C
  ·simp only[bA2,bC2]at h
   obtain⟨⟨rfl,v⟩,hb⟩:=h;rw[bA6 v,bA6 hb];cases d with
   |ival _ _ _ n h1 h2=>exact .ival _ _ _ n h1 h2
  ·cases d with
   |yield _ p hp=>exact .yield _ p ((r h).trans hp)
  ·cases h
def incB :Nat->List Nat->Bool
 |_,[]=>true
 |lo,a::l=>Nat.ble lo a&&incB (a+1) l
theorem aN6 :∀ {l:List Nat} {lo:Nat},incB lo l=true-> ∀(i a:Nat),l[i]? =some a->lo<=a/\ ∀(j b:Nat),i<j->l[j]? =some b->a<b
 | [],_,_,i,a,h=>by simp at h
 |x::l,lo,h,i,a,d=>by
  simp only[incB,bA2]at h;have h1:=bA5 h.1;have o:=aN6 h.2;cases i with
  |zero=>
   simp at d;subst d;refine⟨h1,fun j b hj hb=>?_⟩
   cases j with
   |zero=>omega
   |succ j=>have:=(o j b (by simpa using hb)).1;omega
  |succ i=>
   obtain⟨k1,k2⟩:=o i a (by simpa using d)
   refine⟨by omega,fun j b hj hb=>?_⟩
   cases j with
   |zero=>omega
   |succ j=>exact k2 j b (by omega) (by simpa using hb)
def tmsB (ρ:T Nat)(tm:T Value):Nat->List Value->Bool
 |_,[]=>true
 |k,v::vs=>vm ρ 100 v ((tm.get k).getD undef)&&tmsB ρ tm (k+1) vs
theorem aR8 {ρ:T Nat}{tm:T Value}:∀ {vs:List Value} {k:Nat},tmsB ρ tm k vs=true-> ∀(i:Nat) v,vs[i]? =some v->vm ρ 100 v ((tm.get (k+i)).getD undef)=true
 | [],_,_,i,v,h=>by simp at h
 |x::vs,k,h,i,v,d=>by
  simp only[tmsB,bA2]at h;cases i with
  |zero=>simp at d;subst d;exact h.1
  |succ i=>
   have:=aR8 h.2 i v (by simpa using d)
   rw[show k+(i+1)=k+1+i by omega]
   exact this
def mapB (ρ:T Nat):List (Value×Value)->List (Value×Value)->Bool
 | [],[]=>true
 |x::xs,y::ys=>vm ρ 100 x.1 y.1&&vm ρ 100 x.2 y.2&&mapB ρ xs ys
 |_,_=>false
theorem aO1 {ρ:T Nat}:∀ {xs ys:List (Value×Value)},mapB ρ xs ys=true->xs.length=ys.length/\ ∀(i:Nat) x,xs[i]? =some x-> ∃y,ys[i]? =some y/\vm ρ 100 x.1 y.1=true/\vm ρ 100 x.2 y.2=true
 | [],[],_=>⟨rfl,fun i x h=>by simp at h⟩
 | [],_::_,h=>by cases h
 |_::_,[],h=>by cases h
 |a::xs,b::ys,h=>by
  simp only[mapB,bA2]at h;obtain⟨h1,h2⟩:=aO1 h.2;refine⟨by simp[h1],fun i x hx=>?_⟩
  cases i with
  |zero=>simp at hx;subst hx;exact⟨b,rfl,h.1.1,h.1.2⟩
  |succ i=>obtain⟨y,k1,k2⟩:=h2 i x (by simpa using hx);exact⟨y,by simpa using k1,k2⟩
def blB (ρ:T Nat)(x:Bl)(y:Option Blk):Bool:=
 match x,y with
 | .gone,_=>true
 | .cells n vs e z,some (.cells c k e' z')=>Nat.beq n k&&Nat.beq e e'&&Nat.beq z z'&&(match f9 c 0 k with|some ws=>Q7 (vm ρ 100) vs ws|none=>false)
 | .map es reg,some (.map es' reg')=>(reg==reg')&&mapB ρ es es'
 |_,_=>false
theorem bx9 {c:Blk}(h:blB ρ x (some c)=true)(hb:x.blk=some b):P4 c=false:=by
 unfold blB at h;split at h
 ·cases hb
 ·rename_i e;cases e;rfl
 ·rename_i e;cases e;rfl
 ·cases h
def blsB (ρ:T Nat)(m:T Blk):List Nat->List Bl->Bool
 | [],[]=>true
 |j::js,b::bs=>blB ρ b (m.get j)&&blsB ρ m js bs
 |_,_=>false
theorem aM6 {ρ:T Nat}{m:T Blk}:∀ {d:List Nat} {bs:List Bl},blsB ρ m d bs=true->d.length=bs.length/\ ∀(i:Nat) b,bs[i]? =some b-> ∃j,d[i]? =some j/\blB ρ b (m.get j)=true
 | [],[],_=>⟨rfl,fun i b h=>by simp at h⟩
 | [],_::_,h=>by cases h
 |_::_,[],h=>by cases h
 |j::d,b::bs,h=>by
  simp only[blsB,bA2]at h;obtain⟨h1,h2⟩:=aM6 h.2;refine⟨by simp[h1],fun i x hx=>?_⟩
  cases i with
  |zero=>simp at hx;subst hx;exact⟨j,rfl,h.1⟩
  |succ i=>obtain⟨y,k1,k2⟩:=h2 i x (by simpa using hx);exact⟨y,by simpa using k1,k2⟩
def aS0 (l:List Nat)(nt:Nat)(tm:T Value)(hp:Hp)(s:St):Bool:=
 incB 0 l&&Nat.beq s.tms.length nt&&(ai9 .e 0 l).force fun ρ=>tmsB ρ tm 0 s.tms&&blsB ρ hp.m l s.bls
theorem bx8 (q:∀i j,ρ.get i=some j->σ1 i=σ j){p:Pl}{y:Blk}{o:Obj}(h:blB ρ x (some y)=true)(hb:x.blk=some b)(J:BR σ p y o):BR σ1 p b o:=by
 cases x with
 |gone=>cases hb
 |map es reg=>
  simp only[Bl.blk,bA1]at hb;subst hb;cases y with
  |map O N=>
   simp only[blB,bA2,beq_iff_eq]at h;obtain⟨rfl,t⟩:=h;obtain⟨h1,h2⟩:=aO1 t;obtain⟨ents,d,rfl,k2,k3,E⟩:=J;refine⟨ents,d,rfl,k2.trans h1.symm,fun j x e hx he=>?_,E⟩
   obtain⟨y,hy,M,G⟩:=h2 j x hx;obtain⟨v1,W⟩:=k3 j y e hy he;exact⟨be0 q 100 _ _ _ M v1,be0 q 100 _ _ _ G W⟩
  |_=>cases h
 |cells n vs e z=>
  simp only[Bl.blk,bA1]at hb;subst hb;cases y with
  |cells c k e' Z=>
   simp only[blB,bA2]at h;obtain⟨⟨⟨h1,h2⟩,h3⟩,h4⟩:=h;have h1:=bA6 h1;have h2:=bA6 h2;have h3:=bA6 h3;subst h1 h2 h3;split at h4
   ·rename_i X A
    obtain⟨Y,U⟩:=u6 A;obtain⟨M,G⟩:=av0 h4;obtain⟨C,k1,k2,k3,E,T⟩:=J;refine⟨C,k1,k2,k3,E,fun j hj=>?_⟩
    obtain⟨v,u,q1,q2,V⟩:=T j hj;have R:X[j]? =some v:=by rw[U j hj,bD3];exact q1
    have r:j<vs.length:=by omega
    have K:vs[j]? =some vs[j]:=by simp[r]
    exact⟨vs[j],u,by rw[A0];exact K,q2,be0 q 100 _ _ _ (G j _ _ K R) V⟩
   ·cases h4
  |_=>cases h
variable {nt:Nat}{tm:T Value}{hp:Hp}{s:St}
theorem aS1 {l : List Nat}     (h : aS0 l nt tm hp s = true) {B : BS} {w0 : World}  {tmps : Array Value} {w : World} (ht : TR σ nt tm tmps) ( v : HR B w0 σ hp w) :
  ∃σ1,σ1=(fun i=>(l[i]?).bind σ)/\TR σ1 nt s.tm tmps/\HR B w0 σ1 s.hp w:=by
 unfold aS0 at h;rw[T.force_eq]at h;simp only[bA2]at h;obtain⟨⟨h1,h2⟩,h3,h4⟩:=h;have h2:=bA6 h2;have u:=aN6 h1;obtain⟨Y,N⟩:=aM6 h4;refine⟨fun i=>(l[i]?).bind σ,rfl,⟨ht.size,fun k=>?_⟩,?_⟩
 ·have  C : ∀ i j, (ai9 .e 0 l).get i = some j → (l[i]?).bind σ = σ j := by
   intro i j r;rw[aD9]at r;rw[r];rfl
  unfold St.tm;rw[A0]
  by_cases hk:k<s.tms.length
  ·have K:s.tms[k]? =some s.tms[k]:=by simp[hk]
   have:=aR8 h3 k _ K;rw[K,bE3];rw[bD3]at this;exact be0 C 100 _ _ _ this (ht.at_ k)
  ·have O:s.tms[k]? =none:=bJ9 (by omega)
   have R:tmps.getD k undef=undef:=by simp[Array.getD,ht.size,show¬k<nt by omega]
   rw[O,R,Option.getD_none];exact VR.undef _
 ·have  C : ∀ i j, (ai9 .e 0 l).get i = some j → (l[i]?).bind σ = σ j := by
   intro i j r;rw[aD9]at r;rw[r];rfl
  have get:∀i b,s.hp.m.get i=some b-> ∃x j y,s.bls[i]? =some x/\x.blk=some b/\l[i]? =some j/\hp.m.get j=some y/\blB (ai9 .e 0 l) x (some y)=true:=by
   intro i b d;unfold St.hp at d;simp only at d;rw[bf2]at d
   by_cases hi:i<s.bls.length
   ·rw[bC3 (by omega),bI0,Option.bind_eq_some_iff]at d
    obtain⟨x,hx,hb⟩:=d;obtain⟨j,hj,t⟩:=N i x hx;cases hy:hp.m.get j with
    |none=>
     rw[hy]at t;cases x with
     |gone=>cases hb
     |_=>cases t
    |some y=>rw[hy]at t;exact⟨x,j,y,hx,hb,hj,hy,t⟩
   ·rw[bC1 (by omega),T.get_e]at d
    cases d
  refine⟨v.os,v.tape,v.output,v.size,v.old,v.kept,fun i hi=>?_,fun i b d=>?_,fun i j b b' p q hi hj G hp1 E=>?_⟩
  ·have hi:s.bls.length<=i:=hi
   show(l[i]?).bind σ=Option.none;rw[bJ9 (show l.length<=i by omega)]
   rfl
  ·obtain⟨x,j,y,hx,hb,hj,hy,A⟩:=get i b d
   obtain⟨p,o,k1,k2,k3,W⟩:=v.live j y hy;exact⟨p,o,by rw[hj];exact k1,k2.like (bx9 A hb) (Bl.blk_ro hb),k3,bx8 C A hb W⟩
  ·obtain⟨x,k,y,hx,hb,hk,hy,A⟩:=get i b hi
   obtain⟨x',k',X,V,U,z,J,M⟩:=get j b' hj;rw[hk]at hp1;rw[z]at E;refine v.inj k k' y X p q hy J ?_ hp1 E
   rcases Nat.lt_or_gt_of_ne G with hlt|hlt
   ·have:=(u i k hk).2 j k' hlt z;omega
   ·have:=(u j k' z).2 i k hlt hk;omega
def bh1 :Nat->Nat->List Nat->Bool
 |_,0,_=>true
 |k,n+1,j::l=>Nat.beq k j&&bh1 (k+1) n l
 |_,_+1,[]=>false
theorem ax9 :∀ {n k:Nat} {l:List Nat},bh1 k n l=true-> ∀i,i<n->l[i]? =some (k+i)
 |0,_,_,_,i,hi=>absurd hi (Nat.not_lt_zero i)
 |n+1,k,[],h,_,_=>by cases h
 |n+1,k,j::l,h,i,hi=>by
  simp only[bh1,bA2]at h;have h1:=bA6 h.1;cases i with
  |zero=>simp[h1]
  |succ i=>
   have:=ax9 h.2 i (by omega)
   simp only[bB2,this]
   congr 1
   omega
section
variable {P :Program}{dr:F9}{call:c8}{nt n0 m:Nat}
variable {cs:List Code}{tm tm':T Value}{l:List Nat}{s:St}
theorem O2.weak {hp hp':Hp}{e:Exit}(h:O2 P nt n0 cs tm hp e tm' hp')(k:aS0 l nt tm' hp' s=true)(hp0:bh1 0 n0 l=true):O2 P nt n0 cs tm hp e s.tm s.hp:=by
 intro B w0 σ a w ht q hd;refine ab5 ?_ cs (h B w0 σ a w ht q hd)
 rintro _ a' w' ⟨rfl,d,σ',hl,o,p⟩
 obtain⟨σ1,rfl,h1,h2⟩:=aS1 k o p;refine⟨rfl,d,_,fun i hi=>?_,h1,h2⟩
 rw[<-hl i hi];show(l[i]?).bind σ'=σ' i;rw[ax9 hp0 i hi,bD3];rfl
theorem Z3.weak {c:Code}{hp hp':Hp}{e:Exit}(h:Z3 P nt n0 m c tm hp e tm' hp')(k:aS0 l nt tm' hp' s=true)(hp0:bh1 0 n0 l=true):Z3 P nt n0 m c tm hp e s.tm s.hp:=by
 intro B w0 σ a w ht q hd;refine R2 ?_ (h B w0 σ a w ht q hd)
 rintro _ a' w' ⟨rfl,d,σ',hl,o,p⟩
 obtain⟨σ1,rfl,h1,h2⟩:=aS1 k o p;refine⟨rfl,d,_,fun i hi=>?_,h1,h2⟩
 rw[<-hl i hi];show(l[i]?).bind σ'=σ' i;rw[ax9 hp0 i hi,bD3];rfl
def aW7 (P:Program)(dr:F9)(call:c8)(nt n0 m:Nat)(cs:List Code)(s:St)(l:List Nat)(s':St):Bool:=
 bh1 0 n0 l&&Nat.ble n0 s.bls.length&&match aA8 P dr call nt m cs s.tm s.hp with
 |some (.mk .normal tm hp [])=>aS0 l nt tm hp s'
 |_=>false
theorem bo4 (d:B5 P call)(o:U7 P dr){s':St}(h:aW7 P dr call nt n0 m cs s l s'=true):O2 P nt n0 cs s.tm s.hp .normal s'.tm s'.hp:=by
 unfold aW7 at h;simp only[bA2]at h;obtain⟨⟨h1,h2⟩,h⟩:=h;split at h
 ·rename_i tm hp hx
  exact(ah7 d o cs hx (bA5 h2)).weak h h1
 ·cases h
def ba9 (P:Program)(dr:F9)(call:c8)(nt m:Nat)(cs:List Code)(s:St)(rs:List ResultVar):Bool:=
 match aA8 P dr call nt m cs s.tm s.hp with
 |some (.mk .normal tm hp [])=>(match t9 P tm hp rs with|some [.bool b]=>b|_=>false)
 |some (.mk .ret tm hp [])=>(match t9 P tm hp rs with|some [.bool b]=>b|_=>false)
 |_=>false
end
def H6 (P:Program)(f:FuncId):List Code:=match(aj0 P f).body with|some c=>aw0 c|none=>[]
def ntOf (P:Program)(f:FuncId):Nat:=(aj0 P f).ntmps
def ay1 (P:Program)(f:FuncId):List ResultVar:=(aj0 P f).results.toList
def part (P:Program)(f k n:Nat):List Code:=((H6 P f).drop k).take n
def St.none :St:=⟨[],[]⟩
variable {P:Program}{f:Nat}
theorem O2.start {n0:Nat}:O2 P nt n0 ((H6 P f).take 0) tm hp .normal tm hp:=by
 rw[List.take_zero];exact fun B w0 σ a w ht d hd=>⟨rfl,hd,σ,fun _ _=>rfl,ht,d⟩
variable {k:Nat}
theorem O2.step  {n0:Nat} {tm1   d:T Value} {hp1 hp2:Hp} {e : Exit} (h : O2 P nt n0 ((H6 P f).take k) tm hp .normal tm1 hp1) (n : Nat) (h2 : O2 P nt n0 (part P f k n) tm1 hp1 e   d hp2) :
  O2 P nt n0 ((H6 P f).take (k+n)) tm hp e d hp2:=by
 rw[List.take_add];exact h.append h2
theorem am4  (hm : P.follows .mixedOrders = true) {call : c8} (    q : B5 P call) {m:Nat}  (hs : (P.funcs[f]?).isSome = true) (hb : (aj0 P f).body.isSome = true) (hn : ntOf P f = nt)
  (h1:O2 P nt 0 ((H6 P f).take k) St.none.tm St.none.hp .normal s.tm s.hp) (h2:ba9 P (i8 P) call nt m ((H6 P f).drop k) s (ay1 P f)=true) (w:World):
  Calls P f #[] w fun e w'=>e= .returned (.bool true)/\Below w.heap.size w w':=by
 have t:P.funcs[f]? =some (aj0 P f):=by
  unfold aj0;cases h:P.funcs[f]? with
  |none=>rw[h]at hs;cases hs
  |some fn=>rfl
 generalize hF:aj0 P f=fn at t hb;cases hc:fn.body with
 |none=>rw[hc]at hb;cases hb
 | some c =>
  have d:H6 P f=aw0 c:=by unfold H6;rw[hF,hc]
  have z:ntOf P f=fn.ntmps:=by unfold ntOf;rw[hF]
  have A:ay1 P f=fn.results.toList:=by unfold ay1;rw[hF]
  rw [z] at hn;subst hn;rw [d] at h1;rw [d,A] at h2;have key : ∀ e tm hp vs, (e = .normal ∨ e = .ret) → aA8 P (i8 P) call fn.ntmps m ((aw0 c).drop k) s.tm s.hp = some (.mk e tm hp []) → t9 P tm hp fn.results.toList = some vs → vs = [.bool true] →
    Calls P f #[] w fun e w'=>e= .returned (.bool true)/\Below w.heap.size w w':=by
   rintro e tm hp vs he hx hr rfl
   have o:=h1.append (ah7 q (ao6 hm) _ hx (bI9 _));rw[bI8]at o;have h0:TR (fun _=>Option.none) fn.ntmps St.none.tm (#[]++Array.replicate fn.ntmps undef):=by
    have:=TR.start (VRL.nil (fun _=>Option.none)) fn.ntmps
    simpa [St.tm,St.none,fill]using this
   refine callsIn_wide.1 (callsIn_of_wp (n:=0) t hc trivial (bJ6 (F:=RF none) (aY8 (fun l a w h=>by rcases he with rfl|rfl<;>cases h.1) (o (BS.below w) w (fun _=>Option.none) {tmps:= #[]++Array.replicate fn.ntmps undef,defers:=[]} w h0 (HR.start w) rfl)) fun e' a' w' hq=>?_))
   obtain⟨rfl,hd,σ',_,ht,r⟩:=hq;obtain⟨K,C,v⟩:=I9 ht r hr;obtain⟨u,J,rfl,G,E⟩:=C.uncons;rw[E.unnil]at v;cases G;have p:(results fn a'.tmps).run P w'= .ok (.bool true) w':=by
    have he:results fn a'.tmps=(do let vs<-fn.results.mapM (aF9 a'.tmps);pure (if h:vs.size=1 then vs[0]else .tuple vs):Sem Value):=rfl
    rw[he,Array.mapM_eq_mapM_toList,bD0,Sem.run_map,v];rfl
   rcases he with rfl|rfl
   ·exact⟨hd,_,p,rfl,r.toBelow⟩
   ·exact⟨hd,_,p,rfl,r.toBelow⟩
  unfold ba9 at h2;split at h2
  ·rename_i tm hp hx
   split at h2
   ·rename_i b hr
    exact key .normal tm hp _ (.inl rfl) hx hr (by rw[h2])
   ·cases h2
  ·rename_i tm hp hx
   split at h2
   ·rename_i b hr
    exact key .ret tm hp _ (.inr rfl) hx hr (by rw[h2])
   ·cases h2
  ·cases h2
theorem as2  (hm : P.follows .mixedOrders = true) {ov : FuncId → Option TypeId} (  d : ∀ g t, ov g = some t → Z2 P g t) {n m:Nat}  (hs : (P.funcs[f]?).isSome = true) (hb : (aj0 P f).body.isSome = true) (hn : ntOf P f = nt)
  (h1:O2 P nt 0 ((H6 P f).take k) St.none.tm St.none.hp .normal s.tm s.hp) (h2:ba9 P (i8 P) (exec P ov n) nt m ((H6 P f).drop k) s (ay1 P f)=true) (w:World):
  Calls P f #[] w fun e w'=>e= .returned (.bool true)/\Below w.heap.size w w':=
 am4 hm (aI0 hm d n) hs hb hn h1 h2 w
end Go.Xe
end PartXm19
