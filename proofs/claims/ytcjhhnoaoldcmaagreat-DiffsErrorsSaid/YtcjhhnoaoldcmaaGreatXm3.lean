/- The executor, parts S, 13, 14, 15, D, 16, 17, 18, 19.
  Conditions: none. -/
import Derived.Test.YtcjhhnoaoldcmaaGreatXm2
import Derived.OrdersIn
import Derived.ChangeSame
set_option linter.unusedSimpArgs false
set_option linter.unusedVariables false
noncomputable section PartXmS
namespace Go.Xe
open Go.RowKit
def clEq (v1 v2:List Value):Bool:= @decide (v1=v2) (Classical.propDecidable _)
theorem bB7 {v1 v2:List Value}(h:clEq v1 v2=true):v1=v2:= @bP8 _ (Classical.propDecidable _) h
theorem bk8 (v:List Value):clEq v v=true:= @decide_eq_true _ (Classical.propDecidable _) rfl
def aQ4 (R : List Value → Hp → Option (Value × Hp)) (args : List Value) (hp : Hp) : Option (Value × Hp) :=
 match args with
 | [.slice (some ⟨i, o0, none⟩) l c, x, .slice (some ⟨j, o, none⟩) m cm] =>
  bif Nat.ble unk c && Nat.beq (C3 c) 0 && !(Nat.beq i j) && Nat.ble (l + m) 67108864 then
   match hp.m.get i,hp.m.get j with
   | some bi, some bj =>
    match R [.slice (some ⟨i, o0, none⟩) l (c7 (l + m) 0), x, .slice (some ⟨j, o, none⟩) m cm] ⟨(T.set .e i (some bi)).set j (some bj), hp.nx⟩,
      R [.slice (some ⟨i,o0,none⟩) l (c7 l (l+m)),x,.slice (some ⟨j,o,none⟩) m cm] ⟨(T.set .e i (some bi)).set j (some bj),hp.nx⟩with
    | some (.slice (some ⟨a, oa, none⟩) la ca, ha), some (.slice (some ⟨b, ob, none⟩) lb cb, hb) =>
     bif Nat.beq la lb && Nat.ble unk ca && Nat.ble unk cb then
      match ha.m.get a,hb.m.get b with
      | some (.cells c1 k1 e1 z1), some (.cells c2 k2 e2 z2) =>
       bif Nat.ble (oa + la * z1) k1 && Nat.ble (ob + la * z1) k2 && Nat.beq e1 e2 && Nat.beq z1 z2 then
        match n9 c1 oa (la*z1),n9 c2 ob (la*z1)with
        | some v1, some v2 => bif U6 (veq 100) v1 v2 || clEq v1 v2 then
          some (.slice (some ⟨Nat.max ha.nx hb.nx,0,none⟩) la (c7 la 0),
           ⟨((hp.m.set i none).set j none).set (Nat.max ha.nx hb.nx) (some (.cells (fill .e 0 v1) (la*z1) e1 z1)),Nat.max ha.nx hb.nx+1⟩)
         else none
        |_,_=>none
       else none
      |_,_=>none
     else none
    |_,_=>none
   |_,_=>none
  else none
 |_=>none
def G9 (P : Program) (runD : FuncId → List Value → Hp → Option (Value × Hp)) : List Df → Hp → Option Hp
 | [],hp=>some hp
 | .mark r::ds,hp=>match hp.m.get r with
  |some .dfr=>G9 P runD ds {hp with m:=hp.m.set r none}
  |_=>none
 | .call g args cap :: ds, hp => match P.funcs[g]? with
  | some fn => bif aq8 fn then
    match runD g (args++cap) hp with
    |some (_,hp')=>G9 P runD ds hp'
    |none=>none
   else none
  |none=>none
def aE5 (P:Program)(fn:Func)(runD:FuncId->List Value->Hp->Option (Value×Hp))(tm:T Value)(hp:Hp)(ds:List Df):Option (Value×Hp):=
 match G9 P runD ds hp with
 |some hp'=>match F7 P tm hp' fn.results.toList with
  |some vs=>some (af2 vs,hp')
  |none=>none
 |none=>none
def W8 (P:Program)(dr:F9)(call:d8)(runD:FuncId->List Value->Hp->Option (Value×Hp))(n:Nat)(f:FuncId)(args:List Value)(hp:Hp):Option (Value×Hp):=
 match P.funcs[f]? with
 |some fn=>match fn.body with
  |some c=>match i9 P dr call (args.length+(fn.ntmps-args.length)) none n c (fill .e 0 args) hp []with
   |some (.mk .normal tm' hp' ds)=>aE5 P fn runD tm' hp' ds
   |some (.mk .ret tm' hp' ds)=>aE5 P fn runD tm' hp' ds
   |_=>none
  |none=>none
 |none=>none
def aa0 (P:Program)(dr:F9)(call:d8)(n:Nat)(f:FuncId)(args:List Value)(hp:Hp):Option (Value×Hp):=
 match P.funcs[f]? with
 |some fn=>match fn.body with
  |some c=>match i9 P dr call (args.length+(fn.ntmps-args.length)) none n c (fill .e 0 args) hp []with
   |some (.mk .normal tm' hp' [])=>aE5 P fn (fun _ _ _=>none) tm' hp' []
   |some (.mk .ret tm' hp' [])=>aE5 P fn (fun _ _ _=>none) tm' hp' []
   |_=>none
  |none=>none
 |none=>none
def aB9 (tm:T Value):List Tmp->List Value->T Value
 |t::ts,v::vs=>aB9 (tm.set t (some v)) ts vs
 |_,_=>tm
def at9 (n:Nat):List Tmp->Bool
 | []=>true
 |t::ts=>Nat.blt t n&&at9 n ts
def aF7 (P:Program)(dr:F9)(call:d8)(m:Nat)(i:Nat)(args:List Value)(hp:Hp):Option (Value×Hp):=
 match hp.m.get i with
 |some (.loop .ready _ nt tms ps assign body _)=>
  bif Nat.beq ps.toList.length args.length&&at9 nt ps.toList then
   match i9 P dr call nt (some i) m assign (aB9 tms ps.toList args) hp []with
   |some (.mk .normal tm1 hp1 ds1)=>match hp1.m.get i with
    |some (.loop .ready p1 n1 t1 q1 a1 b1 d1)=>
     match i9 P dr call nt (some i) m body tm1 {hp1 with m:=hp1.m.set i (some (.loop .busy p1 n1 t1 q1 a1 b1 d1))} ds1 with
     |some (.mk e _ hp2 _)=>match hp2.m.get i with
      |some (.loop _ _ n2 t2 q2 a2 b2 d2)=>match e with
       | .normal=>some (.bool true,{hp2 with m:=hp2.m.set i (some (.loop .ready none n2 t2 q2 a2 b2 d2))})
       | .ret=>some (.bool false,{hp2 with m:=hp2.m.set i (some (.loop .done (some .ret) n2 t2 q2 a2 b2 d2))})
       | .exit id=>some (.bool false,{hp2 with m:=hp2.m.set i (some (.loop .done (some (.exit id)) n2 t2 q2 a2 b2 d2))})
       |_=>none
      |_=>none
     |none=>none
    |_=>none
   |_=>none
  else none
 |_=>none
def av9 (R:List Value->Hp->Option (Value×Hp))(args:List Value)(hp:Hp):Option (Value×Hp):=
 match R args hp with
 |some r=>some r
 |none=>aQ4 R args hp
def W0 (P:Program)(dr:F9)(ov:FuncId->Option TypeId):Nat->d8
 |0=>⟨fun _ _ _=>none,ov,fun _ _ _=>none⟩
 |n+1=>⟨fun f args hp=>bif isT (ov f)&&args.isEmpty then some (.bool true,hp)else av9 (W8 P dr (W0 P dr ov n) (aa0 P dr (W0 P dr ov n) n) n f) args hp,ov,aF7 P dr (W0 P dr ov n) n⟩
section
variable {P :Program}{B:BS}{w0:World}
def br5 (P:Program)(f:FuncId)(R:List Value->Hp->Option (Value×Hp)):Prop:=
 ∀args hp v hp',R args hp=some (v,hp')-> ∀B w0 σ w args',VRL σ args args'->HR B w0 σ hp w->
  Calls P f args'.toArray w (fun e w'=>∃σ' u,e= .returned u/\Sg.gr hp.nx hp'.nx σ σ'/\VR σ' v u/\HR B w0 σ' hp' w')
def aZ6 (P:Program)(f:FuncId)(R:List Value->Hp->Option (Value×Hp)):Prop:=
 ∀args hp v hp',R args hp=some (v,hp')-> ∀B w0 σ w args',VRL σ args args'->HR B w0 σ hp w-> ∀u,
  CallsDIn Fence.wide 0 P f args'.toArray u w (fun e u' w'=>u'=u/\ ∃σ' x,e= .returned x/\Sg.gr hp.nx hp'.nx σ σ'/\VR σ' v x/\HR B w0 σ' hp' w')
theorem HR.touch {σ:Sg}{hp:Hp}{w:World}(h:HR B w0 σ hp w){b:Nat}{o:Obj}(hB:¬B b)(hl:∀i x q,hp.m.get i=some x->σ i=some q->q.blk≠b):HR B w0 σ hp {w with heap:=w.heap.setIfInBounds b o}:=by
 refine⟨h.os,h.tape,h.output,by simpa using h.size,h.old,fun k hk=>?_,h.fresh,fun i x hg=>?_,h.inj⟩
 ·have hne:b≠k:=fun e=>hB (by rw[e];exact hk)
  simp[bS0 hne,h.kept k hk]
 ·obtain⟨p,o',h1,h2,h3,h4⟩:=h.live i x hg
  refine⟨p,o',h1,h2,?_,h4⟩;have hne:b≠p.blk:=(hl i x p hg h1).symm;simp[bS0 hne,h3]
theorem au9 {fn:Func}{tmps:Array Value}{vs us:List Value}{w:World}{σ:Sg}(h1:VRL σ vs us)(h2:(fn.results.toList.mapM (aJ9 tmps):Sem (List Value)).run P w= .ok us w):(results fn tmps).run P w= .ok (af2 us) w/\VR σ (af2 vs) (af2 us):=by
 constructor
 ·have he:results fn tmps=(do let vs<-fn.results.mapM (aJ9 tmps);pure (if h:vs.size=1 then vs[0]else .tuple vs):Sem Value):=rfl
  rw[he,Array.mapM_eq_mapM_toList,bK8,Sem.run_map,h2];simp only[bK4,bL3]
  congr 1
  cases us with
  |nil=>rfl
  |cons x us=>cases us<;>rfl
 ·cases vs with
  |nil=>rw[h1.unnil];exact VRL.to_tuple (VRL.nil σ)
  |cons x vs=>
   obtain⟨y,us',rfl,hxy,hrest⟩:=h1.uncons;cases vs with
   |nil=>rw[hrest.unnil];exact hxy
   |cons x2 vs=>
    obtain⟨y2,us2,rfl,_,_⟩:=hrest.uncons;exact h1.to_tuple
theorem aP9 {runD : FuncId → List Value → Hp → Option (Value × Hp)} (hD : ∀ g, aZ6 P g (runD g)) {fn : Func} {tmps : Array Value} {R : Ending → World → Prop} : ∀ (ds : List Df) (D : List Deferred) (hp hp' : Hp) (σ : Sg) (w : World),
  G9 P runD ds hp=some hp'->DsR σ ds D->HR B w0 σ hp w->(∀σ' w',Sg.gr hp.nx hp'.nx σ σ'->HR B w0 σ' hp' w'->LeavesIn Fence.wide 0 P fn tmps R [] .returning w')->LeavesInM Fence.wide 0 P fn tmps R D .returning w:=by
 intro ds
 induction ds with
 |nil=>
  intro D hp hp' σ w h hd hw k;simp only[G9,bH9]at h;subst h;cases D with
  |nil=>exact k σ w (Sg.gr_refl _ σ) hw
  |cons d D=>exact hd.elim
 |cons x ds ih=>
  intro D hp hp' σ w h hd hw k;cases D with
  |nil=>cases x<;>exact hd.elim
  |cons d D=>
   obtain⟨hx,hd⟩:=hd;cases x with
   |mark r=>
    simp only[G9]at h;split at h
    ·rename_i hg
     obtain⟨p,hp1,htar⟩:=hx;obtain⟨p',o,q1,q2,q3,q4⟩:=hw.live r _ hg;have:p'=p:=bK5 (q1.symm.trans hp1);subst this;have q4:o= .deferred (some []):=q4;subst q4;have hw2:=(HR.drop hw r).touch (o:= .deferred none) q2 (fun i x q hi hq e=>by
      have hi:(hp.m.set r none).get i=some x:=hi;rw[T.get_set]at hi
      by_cases hir:i=r
      ·grind
      ·rw[bJ9 hir]at hi
       exact hw.inj i r x _ q p' hi hg hir hq q1 e)
     exact⟨by simp,.inl ⟨p'.blk,_,htar,run_takeDeferred q3,ih D _ hp' σ _ h hd hw2 k⟩⟩
    ·cases h
   |call g args cap=>
    simp only[G9]at h;obtain⟨cap',htar,hva,hvc⟩:=hx;split at h
    ·rename_i fg hfg
     cases ho:aq8 fg with
     |false=>grind
     |true=>
      rw[ho,bJ6]at h;split at h
      ·rename_i v hp1 hr
       refine⟨by simp,.inr ⟨fun h=>(by cases h),.func g,cap',g,(d.args.toList++cap'.toList).toArray,htar,?_,fun _ _=>trivial,?_⟩⟩
       ·rw[htar]
        have:(d.args.toList++cap'.toList).toArray=d.args++cap':=by apply bQ0;simp
        rw[this];exact Z3 hfg ho w
       ·refine CallsDIn.mono (hD g (args++cap) hp v hp1 hr B w0 σ w _ (hva.append hvc) hw .returning) fun e u' w' he=>?_
        obtain⟨rfl,σ1,x,rfl,gr,_,hw1⟩:=he;exact ih D hp1 hp' σ1 w' h (hd.mono gr.le) hw1 fun σ' w'' g' hw'=>k σ' w'' (Sg.gr_trans gr g') hw'
      ·cases h
    ·cases h
theorem aX6 {dr : F9} (hdr : X9 P dr) {call : d8} (ih : E7 P call) {runD : FuncId → List Value → Hp → Option (Value × Hp)} (hD : ∀ g, aZ6 P g (runD g)) (n : Nat) (g : FuncId) : br5 P g (W8 P dr call runD n g) := by
 intro args hp v hp' h B w0 σ w args' ha hw;simp only[W8]at h;split at h
 ·rename_i fn hfn
  split at h
  ·rename_i c hc
   have fin : ∀ e tm1 hp1 ds1, (e = .normal ∨ e = .ret) → i9 P dr call (args.length + (fn.ntmps - args.length)) none n c (fill .e 0 args) hp [] = some (.mk e tm1 hp1 ds1) →
     aE5 P fn runD tm1 hp1 ds1=some (v,hp')->
     Calls P g args'.toArray w (fun e w'=>∃σ' u,e= .returned u/\Sg.gr hp.nx hp'.nx σ σ'/\VR σ' v u/\HR B w0 σ' hp' w'):=by
    intro e tm1 hp1 ds1 he hx hr;unfold aE5 at hr;split at hr
    ·rename_i hp2 hlv
     split at hr
     ·rename_i vs hvs
      simp only[bH9,bI1]at hr;obtain⟨rfl,rfl⟩:=hr;refine callsIn_wide.1 (callsIn_of_wp_marks (n:=0) hfn hc trivial (bS5 ((O2 (B:=B) (w0:=w0) ih hdr n).1 c _ hp [] e tm1 hp1 ds1 σ {tmps:=args'.toArray++Array.replicate (fn.ntmps-args'.toArray.size) undef,defers:=[]} w none hx (TR.start ha fn.ntmps) hw trivial trivial) fun e' a' w' hq=>?_))
      obtain⟨rfl,σ',hle,hd,ht,hw'⟩:=hq;have hL:LeavesInM Fence.wide 0 P fn a'.tmps (fun e w'=>∃σ' u,e= .returned u/\Sg.gr hp.nx hp2.nx σ σ'/\VR σ' (af2 vs) u/\HR B w0 σ' hp2 w') a'.defers .returning w':=
       aP9 hD ds1 a'.defers hp1 hp2 σ' w' hlv hd hw' fun σ2 w2 g2 hw2=>by
        obtain⟨us,hu1,hu2⟩:=M5 (ht.mono g2.le) hw2 hvs;obtain⟨r1,r2⟩:=au9 hu1 hu2;exact⟨_,r1,σ2,_,rfl,Sg.gr_trans hle g2,r2,hw2⟩
      rcases he with rfl|rfl
      ·exact hL
      ·exact hL
     ·cases hr
    ·cases hr
   grind
  ·cases h
 ·cases h
theorem aP2 {dr : F9} (hdr : X9 P dr) {call : d8} (ih : E7 P call) (n : Nat) (g : FuncId) : aZ6 P g (aa0 P dr call n g) := by
 intro args hp v hp' h B w0 σ w args' ha hw u0;simp only[aa0]at h;split at h
 ·rename_i fn hfn
  split at h
  ·rename_i c hc
   have fin : ∀ e tm1 hp1, (e = .normal ∨ e = .ret) → i9 P dr call (args.length + (fn.ntmps - args.length)) none n c (fill .e 0 args) hp [] = some (.mk e tm1 hp1 []) →
     aE5 P fn (fun _ _ _=>none) tm1 hp1 []=some (v,hp')->
     CallsDIn Fence.wide 0 P g args'.toArray u0 w (fun e u' w'=>u'=u0/\ ∃σ' u,e= .returned u/\Sg.gr hp.nx hp'.nx σ σ'/\VR σ' v u/\HR B w0 σ' hp' w'):=by
    intro e tm1 hp1 he hx hr;unfold aE5 at hr;simp only[G9]at hr;split at hr
    ·rename_i vs hvs
     simp only[bH9,bI1]at hr;obtain⟨rfl,rfl⟩:=hr;refine callsDIn_of_wp (R:=fun e w'=>∃σ' u,e= .returned u/\Sg.gr hp.nx hp1.nx σ σ'/\VR σ' (af2 vs) u/\HR B w0 σ' hp1 w') (n:=0) hfn hc trivial
      (bS5 ((O2 (B:=B) (w0:=w0) ih hdr n).1 c _ hp [] e tm1 hp1 [] σ {tmps:=args'.toArray++Array.replicate (fn.ntmps-args'.toArray.size) undef,defers:=[]} w none hx (TR.start ha fn.ntmps) hw trivial trivial) fun e' a' w' hq=>?_)
     obtain⟨rfl,σ',hle,hd,ht,hw'⟩:=hq;obtain⟨us,hu1,hu2⟩:=M5 ht hw' hvs;obtain⟨r1,r2⟩:=au9 hu1 hu2;have hd:a'.defers=[]:=by
      cases hD:a'.defers with
      |nil=>rfl
      |cons d D=>rw[hD]at hd;exact hd.elim
     rcases he with rfl|rfl
     ·exact⟨hd,_,r1,σ',_,rfl,hle,r2,hw'⟩
     ·exact⟨hd,_,r1,σ',_,rfl,hle,r2,hw'⟩
    ·cases hr
   grind
  ·cases h
 ·cases h
theorem aJ8 {σ : Sg} {nt : Nat} : ∀ (ps : List Tmp) (xs ys : List Value) (tm : T Value) (tmps : Array Value), at9 nt ps = true → ps.length = xs.length → VRL σ xs ys → TR σ nt tm tmps →
  TR σ nt (aB9 tm ps xs) ((ps.zip ys).foldl (fun tmps (x:Tmp×Value)=>tmps.setIfInBounds x.1 x.2) tmps)
 | [],xs,ys,tm,tmps,_,_,_,h=>by cases xs<;>simpa [aB9]using h
 |t::ts,[],ys,tm,tmps,_,hl,_,_=>by simp at hl
 |t::ts,x::xs,ys,tm,tmps,ha,hl,hv,h=>by
  obtain⟨y,ys',rfl,hxy,hr⟩:=hv.uncons;simp only[at9,bI0]at ha;exact aJ8 ts xs ys' _ _ ha.2 (by simpa using hl) hr (h.put (bI3 ha.1) hxy)
theorem aq1 {σ : Sg} {hp : Hp} {w : World} (hw : HR B w0 σ hp w) {i : Nat} {p : Pl} (hi : σ i = some p) {st : LoopState} {pend : Option Code} {nt : Nat} {tms : T Value} {ps : Array Tmp} {assign body : Code} {db : Nat}
  (hg:hp.m.get i=some (.loop st pend nt tms ps assign body db)) (jump:Option Code):
  ∃w',(Instr.endRound p.blk jump).run P w= .ok (.bool jump.isNone) w'/\HR B w0 σ {hp with m:=hp.m.set i (some (.loop (if jump.isNone then .ready else .done) jump nt tms ps assign body db))} w':=by
 obtain⟨p',o,q1,q2,q3,q4⟩:=hw.live i _ hg;have:p'=p:=bK5 (q1.symm.trans hi);subst this;obtain⟨rec,rfl,k1,k2,k3,k4,k5,k6,k7⟩:=q4;exact⟨_,run_endRound jump q3,HR.setO hw hg q1 ⟨_,rfl,rfl,rfl,k3,k4,k5,k6,k7⟩⟩
theorem aQ0 {dr : F9} (hdr : X9 P dr) {call : d8} (ih : E7 P call) (m : Nat) : ∀ i args hp v hp', aF7 P dr call m i args hp = some (v, hp') → ∀ B w0 σ w args' p, σ i = some p → VRL σ args args' → HR B w0 σ hp w →
  ∃r,w.heap[p.blk]? =some (.loop r)/\args'.length=r.params.size/\
   RoundIn Fence.wide 0 P p.blk r.fn ((r.params.zip args'.toArray).foldl (fun tmps (t,a)=>tmps.setIfInBounds t a) r.tmps) r.assign r.body w (fun e w'=>∃σ' u,e= .returned u/\Sg.gr hp.nx hp'.nx σ σ'/\VR σ' v u/\HR B w0 σ' hp' w'):=by
 intro i args hp v hp' h B w0 σ w args' p hi ha hw;unfold aF7 at h;split at h
 ·rename_i pend nt tms ps assign body db hg
  cases hb:Nat.beq ps.toList.length args.length&&at9 nt ps.toList with
  |false=>grind
  |true=>
   rw[hb,bJ6]at h;simp only[bI0]at hb;have hlen:=bI4 hb.1;obtain⟨p',o,q1,q2,q3,q4⟩:=hw.live i _ hg;have:p'=p:=bK5 (q1.symm.trans hi);subst this;obtain⟨rec,rfl,k1,k2,rfl,rfl,rfl,k6,k7⟩:=q4;refine⟨rec,q3,by rw[<-ha.1,<-hlen];simp,?_⟩
   have hfold:(rec.params.zip args'.toArray).foldl (fun tmps (x:Tmp×Value)=>tmps.setIfInBounds x.1 x.2) rec.tmps=(rec.params.toList.zip args').foldl (fun tmps (x:Tmp×Value)=>tmps.setIfInBounds x.1 x.2) rec.tmps:=by
    rw[<-Array.foldl_toList,Array.toList_zip]
   have ht0:=aJ8 rec.params.toList args args' tms rec.tmps hb.2 hlen ha ⟨k6.1,k6.2⟩;rw[<-hfold]at ht0;split at h
   ·rename_i tm1 hp1 ds1 hx
    refine roundIn_of_wpIn (F:=Fence.wide) trivial (bS5 ((O2 (B:=B) (w0:=w0) ih hdr m).1 rec.assign _ hp [] .normal tm1 hp1 ds1 σ {tmps:=_,defers:=[]} w (some p'.blk) hx ht0 hw trivial ⟨p',hi,rfl⟩) fun e1 a1 w1 hq1=>?_)
    obtain⟨rfl,σ1,gr1,hd1,ht1,hw1⟩:=hq1;have hi1:=gr1.le _ _ hi;split at h
    ·rename_i p1 n1 t1 r1 as1 bo1 db1 hg1
     obtain⟨p2,o2,u1,u2,u3,u4⟩:=hw1.live i _ hg1;have:p2=p':=bK5 (u1.symm.trans hi1);subst this;obtain⟨rec1,rfl,m1,m2,m3,m4,m5,m6,m7⟩:=u4;refine⟨_,run_beginRound u3 m1,?_⟩;have hw2:=HR.setO (b':= .loop .busy p1 n1 t1 r1 as1 bo1 db1) hw1 hg1 hi1 (o:= .loop {rec1 with state:= .busy}) ⟨_,rfl,rfl,m2,m3,m4,m5,m6,m7⟩
     split at h
     ·rename_i e tm2 hp2 ds2 hx2
      refine bS5 ((O2 (B:=B) (w0:=w0) ih hdr m).1 rec.body _ _ ds1 e tm2 hp2 ds2 σ1 a1 _ (some p2.blk) hx2 ht1 hw2 hd1 ⟨p2,hi1,rfl⟩) fun e2 a2 w2 hq2=>?_
      obtain⟨rfl,σ2,gr2,_,_,hw3⟩:=hq2;have hi2:=gr2.le _ _ hi1;have gr:Sg.gr hp.nx hp2.nx σ σ2:=Sg.gr_trans gr1 gr2;split at h
      ·rename_i st3 pend3 n3 t3 r3 as3 bo3 db3 hg3
       split at h
       ·simp only[bH9,bI1]at h
        obtain⟨rfl,rfl⟩:=h;obtain⟨w3,s1,s2⟩:=aq1 (P:=P) hw3 hi2 hg3 none;exact⟨_,w3,s1,σ2,_,rfl,gr,.bool true,s2⟩
       ·simp only[bH9,bI1]at h
        obtain⟨rfl,rfl⟩:=h;obtain⟨w3,s1,s2⟩:=aq1 (P:=P) hw3 hi2 hg3 (some .ret);exact⟨_,w3,s1,σ2,_,rfl,gr,.bool false,s2⟩
       ·rename_i id
        cases h;obtain⟨w3,s1,s2⟩:=aq1 (P:=P) hw3 hi2 hg3 (some (.exit id));exact⟨_,w3,s1,σ2,_,rfl,gr,.bool false,s2⟩
       ·cases h
      ·cases h
     ·cases h
    ·cases h
   ·cases h
 ·cases h
theorem aD0 {σ σa : Sg} {hp ha : Hp} {w w' : World} {i j a N : Nat} {bi bj : Blk} {la ca : Nat} {c1 c2 : T Value} {k k2 oa e z : Nat} {u : Value} (hw : HR B w0 σ hp w)
  (hgi:hp.m.get i=some bi) (hgj:hp.m.get j=some bj) (hr:HR (rest B σ ⟨(T.set .e i (some bi)).set j (some bj),hp.nx⟩ w) w σa ha w') (gr:Sg.gr hp.nx ha.nx σ σa)
  (hv:VR σa (.slice (some ⟨a,oa,none⟩) la ca) u) (hca:unk<=ca) (hga:ha.m.get a=some (.cells c2 k2 e z)) (hk:oa+k<=k2) (hc:∀x,x<k->c1.get x=c2.get (oa+x)) (hN:ha.nx<=N):
  ∃σ',Sg.gr hp.nx (N+1) σ σ'/\VR σ' (.slice (some ⟨N,0,none⟩) la (c7 la 0)) u/\HR B w0 σ' ⟨((hp.m.set i none).set j none).set N (some (.cells c1 k e z)),N+1⟩ w':=by
 have small:∀x b,((T.set .e i (some bi)).set j (some bj):T Blk).get x=some b->(x=i\/x=j)/\hp.m.get x=some b:=by
  intro x b hg;rw[T.get_set]at hg
  by_cases hj:x=j
  ·grind
  ·rw[bJ9 hj,T.get_set]at hg
   by_cases hi:x=i
   ·grind
   ·rw[bJ9 hi]at hg
    simp[T.get_e]at hg
 have hws:HR B w0 σ ⟨(T.set .e i (some bi)).set j (some bj),hp.nx⟩ w:=hw.less (fun x b hg=>(small x b hg).2)
 have hb:=hws.back hr;cases hv with
 |slice _ _ p _ _ c' hpa hcc hll=>
 have hfn:σa N=none:=hb.fresh N hN;have hle:=Sg.le_ext (σ:=σa) (i:=N) {p with dl:=p.dl+oa} hfn
 have hnx:=gr.nx;obtain⟨p',o,l1,l2,l3,l4⟩:=hb.live a _ hga;have:p'=p:=bK5 (l1.symm.trans hpa);subst this;obtain⟨q',o',r1,r2,r3,_⟩:=hr.live a _ hga;have:q'=p':=bK5 (r1.symm.trans hpa);subst this;have old:∀x b,x≠N->((((hp.m.set i none).set j none).set N (some (.cells c1 k e z))):T Blk).get x=some b->hp.m.get x=some b/\ ∃q o,σ x=some q/\NB B q.blk b/\w.heap[q.blk]? =some o/\BR σ q b o/\rest B σ ⟨(T.set .e i (some bi)).set j (some bj),hp.nx⟩ w q.blk:=by
  intro x b hxN hg;rw[T.get_set,bJ9 hxN,T.get_set]at hg
  by_cases hj:x=j
  ·grind
  ·rw[bJ9 hj,T.get_set]at hg
   by_cases hi:x=i
   ·grind
   ·rw[bJ9 hi]at hg
    obtain⟨q,o,h1,h2,h3,h4⟩:=hw.live x b hg;refine⟨hg,q,o,h1,h2,h3,h4,.inr ⟨(bJ4.1 h3).1,fun y b' q' hy hq'=>?_⟩⟩
    obtain⟨hyij,hgy⟩:=small y b' hy;have hyx:y≠x:=by rintro rfl;rcases hyij with rfl|rfl<;>contradiction
    exact hw.inj y x _ _ q' q hgy hg hyx hq' h1
 refine⟨σa.ext N {q' with dl:=q'.dl+oa},⟨Sg.le_trans gr.le hle,fun x hx=>(Sg.ext_other _ _ _ (by omega)).trans (gr.low x hx),by omega⟩,?_,?_⟩
 ·have := VR.slice (σ := σa.ext N { q' with dl := q'.dl + oa }) N 0 { q' with dl := q'.dl + oa } la (c7 la 0) c' (Sg.ext_same _ _ _) (.inr ⟨p7 _ _, by rw [G4 D7]; exact hll, .inl (F5 D7), by
   rcases hcc with⟨_,h⟩| ⟨_,_,_,h⟩
   ·omega
   ·exact h⟩) hll
  exact this
 ·refine⟨hb.os,hb.tape,hb.output,hb.size,hb.old,hb.kept,fun x hx=>(Sg.ext_other _ _ _ (by have:N+1<=x:=hx;omega)).trans (hb.fresh x (by have:N+1<=x:=hx;omega)),?_,?_⟩
  ·intro x b hg
   by_cases hx:x=N
   ·subst hx
    rw[T.get_set,bK1 rfl]at hg;simp only[bH9]at hg;subst hg;obtain⟨C,e1,e2,e3,e4,e5⟩:=l4;refine⟨{q' with dl:=q'.dl+oa},o,Sg.ext_same _ _ _,l2,l3,C,e1,e2,e3,(by show q'.dl+oa+k<=q'.siz;omega),fun y hy=>?_⟩
    obtain⟨v,u,a1,a2,a3⟩:=e5 (oa+y) (by omega)
    exact⟨v,u,(hc y hy).trans a1,(by show C[q'.dl+oa+y]? =some u;rw[bN9];exact a2),a3.mono hle⟩
   ·obtain⟨hg',q,o,h1,h2,h3,h4,h5⟩:=old x b hx hg
    exact⟨q,o,hle _ _ (gr.le _ _ h1),h2,(hr.kept _ h5).trans h3,h4.mono (Sg.le_trans gr.le hle)⟩
  ·intro x y b1 b2 p1 p2 hx hy hne hp1 hp2
   by_cases hxN:x=N
   ·subst hxN
    have hyN:y≠x:=Ne.symm hne;obtain⟨_,q,o,h1,_,_,_,h5⟩:=old y b2 hyN hy;have e1:p1= {q' with dl:=q'.dl+oa}:=bK5 (hp1.symm.trans (Sg.ext_same _ _ _))
    have e2:p2=q:=bK5 (hp2.symm.trans (hle _ _ (gr.le _ _ h1)));subst e1;subst e2;exact fun heq=>r2 (heq▸h5)
   ·obtain⟨hgx,q,o,h1,_,_,_,h5⟩:=old x b1 hxN hx
    have e1:p1=q:=bK5 (hp1.symm.trans (hle _ _ (gr.le _ _ h1)));subst e1
    by_cases hyN:y=N
    ·subst hyN
     have e2:p2= {q' with dl:=q'.dl+oa}:=bK5 (hp2.symm.trans (Sg.ext_same _ _ _))
     subst e2;exact fun heq=>r2 (heq▸h5)
    ·obtain⟨hgy,q2,o2,m1,_⟩:=old y b2 hyN hy
     have e2:p2=q2:=bK5 (hp2.symm.trans (hle _ _ (gr.le _ _ m1)));subst e2;exact hw.inj x y _ _ _ _ hgx hgy hne h1 m1
theorem aQ5 {f : FuncId} {R : List Value → Hp → Option (Value × Hp)} (hR : br5 P f R) : br5 P f (aQ4 R) := by
 intro args hp v hp' h B w0 σ w args' hargs hw;unfold aQ4 at h;split at h
 case h_2=>cases h
 rename_i i o0 l c x j o m cm;cases hb:Nat.ble unk c&&Nat.beq (C3 c) 0&& !(Nat.beq i j)&&Nat.ble (l+m) 67108864 with
 |false=>grind
 |true=>
 rw[hb,bJ6]at h;simp only[bI0]at hb;obtain⟨⟨⟨b1,b2⟩,b3⟩,b4⟩:=hb;have b1:=bI3 b1;have b4:=bI3 b4;split at h
 case h_2=>cases h
 rename_i bi bj hgi hgj;split at h
 case h_2=>cases h
 rename_i a oa la ca ha b ob lb cb hbb hA hB;cases hb2:Nat.beq la lb&&Nat.ble unk ca&&Nat.ble unk cb with
 |false=>grind
 |true=>
 rw[hb2,bJ6]at h;simp only[bI0]at hb2;have d1:=bI4 hb2.1.1;have d2:=bI3 hb2.1.2;have d3:=bI3 hb2.2;subst d1;split at h
 case h_2=>cases h
 rename_i c1 k1 e1 z1 c2 k2 e2 z2 hga hgb;cases hb3:Nat.ble (oa+la*z1) k1&&Nat.ble (ob+la*z1) k2&&Nat.beq e1 e2&&Nat.beq z1 z2 with
 |false=>grind
 |true=>
 rw[hb3,bJ6]at h;simp only[bI0]at hb3;have f0:=bI3 hb3.1.1.1;have f1:=bI3 hb3.1.1.2;have f2:=bI4 hb3.1.2;have f3:=bI4 hb3.2;subst f2;subst f3;split at h
 case h_2=>cases h
 rename_i v1 v2 hl1 hl2;cases hveq:U6 (veq 100) v1 v2||clEq v1 v2 with
 |false=>rw[hveq]at h;cases h
 |true=>
 rw[hveq,bJ6]at h;simp only[bH9,bI1]at h;obtain⟨rfl,rfl⟩:=h;have hvv:v1=v2:=by
  rw[bP6]at hveq;exact hveq.elim (Y0 (as2 100)) bB7
 subst hvv;have hlen1:=(j9 hl1).1;have hsame1:∀x,x<la*z1->(fill .e 0 v1).get x=c1.get (oa+x):=by
  intro x hx;rw[<-(j9 hl1).2 x hx];exact B6 v1 x (by omega)
 have hsame:∀x,x<la*z1->(fill .e 0 v1).get x=c2.get (ob+x):=by
  intro x hx;rw[<-(j9 hl2).2 x hx];exact B6 v1 x (by omega)
 have small:∀x b,((T.set .e i (some bi)).set j (some bj):T Blk).get x=some b->hp.m.get x=some b:=by
  intro x b hg;rw[T.get_set]at hg
  by_cases hj:x=j
  ·grind
  ·rw[bJ9 hj,T.get_set]at hg
   by_cases hi:x=i
   ·grind
   ·rw[bJ9 hi]at hg
    simp[T.get_e]at hg
 have hmax:=(hw.less small).max;obtain⟨s',r,rfl,hs,hrest⟩:=hargs.uncons;cases hs with
 |slice _ _ p _ _ c' hpi hcc hll=>
 obtain⟨hclo,hbnd⟩:I6 c<=c'/\p.dl+o0+c'*p.esz<=p.siz:=by
  grind
 have hlu:l+m<unk:=by unfold unk;omega
 by_cases hroom:l+m<=c'
 ·have hv' : VR σ (.slice (some ⟨i, o0, none⟩) l (c7 (l + m) 0)) (.slice (some ⟨p.blk, p.dl + o0, none⟩) l c') :=
   .slice i o0 p l _ c' hpi (.inr ⟨p7 _ _,by rw[G4 D7];exact hroom,.inl (F5 D7),hbnd⟩) hll
  refine(hR _ _ _ _ hA _ _ _ _ _ (VRL.cons hv' hrest) hmax).mono fun e w' he=>?_
  obtain⟨σa,u,rfl,gr,hvu,hwa⟩:=he;obtain⟨σ',q1,q2,q3⟩:=aD0 (N:=Nat.max ha.nx hbb.nx) hw hgi hgj hwa gr hvu d2 hga f0 hsame1 (Nat.le_max_left _ _);exact⟨σ',u,rfl,q1,q2,q3⟩
 ·have hv' : VR σ (.slice (some ⟨i, o0, none⟩) l (c7 l (l + m))) (.slice (some ⟨p.blk, p.dl + o0, none⟩) l c') :=
   .slice i o0 p l _ c' hpi (.inr ⟨p7 _ _,by rw[G4 hlu];exact hll,.inr (by rw[F5 hlu];omega),hbnd⟩) hll
  refine(hR _ _ _ _ hB _ _ _ _ _ (VRL.cons hv' hrest) hmax).mono fun e w' he=>?_
  obtain⟨σa,u,rfl,gr,hvu,hwa⟩:=he;obtain⟨σ',q1,q2,q3⟩:=aD0 (N:=Nat.max ha.nx hbb.nx) hw hgi hgj hwa gr hvu d3 hgb f1 hsame (bO9 _ _);exact⟨σ',u,rfl,q1,q2,q3⟩
theorem aR4 {dr:F9}(hdr:X9 P dr){ov:FuncId->Option TypeId}(hov:∀g t,ov g=some t->ai7 P g t):∀n,E7 P (W0 P dr ov n):=by
 intro n
 induction n with
 |zero=>exact⟨(fun g args hp v hp' h=>by cases h),hov,(fun i args hp v hp' h=>by cases h)⟩
 |succ n ih=>
  refine⟨fun g args hp v hp' h=>?_,hov,aQ0 hdr ih n⟩
  simp only[W0,av9]at h;cases ht:isT (ov g)&&args.isEmpty with
  |true=>
   rw[ht,bJ6]at h;cases h;rw[bI0]at ht;intro B w0 σ w args' ha hw;obtain rfl:=List.isEmpty_iff.1 ht.2;obtain rfl:=ha.unnil;have h1:=ht.1;unfold isT at h1;split at h1
   ·rename_i t e
    rcases hov g t e with⟨_,k⟩| ⟨k,_⟩
    ·exact(k w).mono fun e w' he=>⟨σ,_,he.1,Sg.gr_refl _ σ,.bool true,hw.below he.2⟩
    ·simp_all
   ·cases h1
  |false=>
  rw[ht,bJ7]at h;have hb:=aX6 hdr ih (aP2 hdr ih n) n g;split at h
  ·rename_i r hr
   cases h;exact hb args hp v hp' hr
  ·exact aQ5 hb args hp v hp' h
end
end Go.Xe
end PartXmS
noncomputable section PartXm13
namespace Go.Xe
open Go.RowKit
structure Ent where
 i:Nat
 o:Oper
 pre:Nat
 tm:T Value
 S:Hp
 S2:Hp
 I:Nat
 wt:Bool
 r:Value
 nw:Option Nw
def takes (nx0:Nat)(m:Nat->Bool):List Ent->Hp->Hp
 | [],S=>S
 |e::es,S=>match e.nw with
  |some n=>bif m e.i then takes nx0 m es (S.take (nx0+e.i) n)else takes nx0 m es S
  |none=>takes nx0 m es S
def aj5 (pre I:Nat)(j:Nat):Bool:=pre.testBit j&& !I.testBit j
def ah3 (I:Nat)(j:Nat):Bool:= !I.testBit j
structure Out where
 tm:T Value
 S:Hp
 I:Nat
 es:List Ent
def xgo (P:Program)(call:d8)(nt:Nat)(all:List Oper)(nx0:Nat):List (Oper×Nat)->Nat->T Value->Hp->Nat->List Ent->Option Out
 | [],_,tm,S,I,es=>some ⟨tm,S,I,es⟩
 | (o,pre)::rest,i,tm,S,I,es=>
  bif A4 nt o.dst then
   bif n8 all tm o then
    match d6 o.op with
    |0=>match xop P call tm S o.op with
     |some (v,_)=>xgo P call nt all nx0 rest (i+1) (y8 tm o.dst v) S I (⟨i,o,pre,tm,S,S,I,true,v,none⟩::es)
     |none=>none
    |1=>match xrd P tm S o.op with
     |some v=>xgo P call nt all nx0 rest (i+1) (y8 tm o.dst v) S I (⟨i,o,pre,tm,S,S,I,true,v,none⟩::es)
     |none=>none
    |2=>match xnw P tm o.op with
     |some n=>xgo P call nt all nx0 rest (i+1) (y8 tm o.dst (n.val (nx0+i))) S I (⟨i,o,pre,tm,S,S,I,true,n.val (nx0+i),some n⟩::es)
     |none=>none
    |_=>match xop P call tm (takes nx0 (aj5 pre I) es S) o.op with
     |some (v,S2)=>xgo P call nt all nx0 rest (i+1) (y8 tm o.dst v) S2 (I|||pre) (⟨i,o,pre,tm,S,S2,I,true,v,none⟩::es)
     |none=>none
   else xgo P call nt all nx0 rest (i+1) (y8 tm o.dst undef) S I (⟨i,o,pre,tm,S,S,I,false,undef,none⟩::es)
  else none
structure aZ7 (P:Program)(call:d8)(nt:Nat)(all:List Oper)(nx0:Nat)(e:Ent)(es:List Ent)(tm':T Value)(S':Hp)(I':Nat):Prop where
 dst:A4 nt e.o.dst=true
 wt:e.wt=n8 all e.tm e.o
 tm:tm'=y8 e.tm e.o.dst e.r
 S2:e.S2=S'
 un:e.wt=false->e.r=undef/\e.nw=none
 low:(e.wt=false\/d6 e.o.op≠3)->S'=e.S/\I'=e.I
 k0:e.wt=true->d6 e.o.op=0-> ∀S,xop P call e.tm S e.o.op=some (e.r,S)
 k1:e.wt=true->d6 e.o.op=1->xrd P e.tm e.S e.o.op=some e.r
 k2:e.wt=true->d6 e.o.op=2-> ∃n,xnw P e.tm e.o.op=some n/\e.r=n.val (nx0+e.i)/\e.nw=some n
 k3:e.wt=true->3<=d6 e.o.op->xop P call e.tm (takes nx0 (aj5 e.pre e.I) es e.S) e.o.op=some (e.r,S')/\I'=e.I|||e.pre
 nw:d6 e.o.op≠2->e.nw=none
inductive H9 (P : Program) (call : d8) (nt : Nat) (all : List Oper) (nx0 : Nat) (tmN : T Value) (SN : Hp) (IN : Nat) : List Ent → List Ent → T Value → Hp → Nat → Prop
 |nil (es:List Ent):H9 P call nt all nx0 tmN SN IN es [] tmN SN IN
 | cons (e : Ent) (es s : List Ent) (tm' : T Value) (S' : Hp) (I' : Nat) (hi : e.i = es.length) (h : aZ7 P call nt all nx0 e es tm' S' I')
   (hc:H9 P call nt all nx0 tmN SN IN (e::es) s tm' S' I'):H9 P call nt all nx0 tmN SN IN es (e::s) e.tm e.S e.I
theorem an0 (o:Op):d6 o<=3:=by
 unfold d6;split<;>omega
section
variable {P :Program}{call:d8}{nt:Nat}{all:List Oper}{nx0:Nat}{tmN:T Value}{SN:Hp}{IN:Nat}
theorem bq1 : ∀ (ps : List (Oper × Nat)) (i : Nat) (tm : T Value) (S : Hp) (I : Nat) (es : List Ent) (out : Out), xgo P call nt all nx0 ps i tm S I es = some out → i = es.length →
  ∃s,out.es=s.reverse++es/\s.map (fun e=>(e.o,e.pre))=ps/\H9 P call nt all nx0 out.tm out.S out.I es s tm S I:=by
 intro ps
 induction ps with
 |nil=>
  intro i tm S I es out h hi;simp only[xgo,bH9]at h;subst h;exact⟨[],rfl,rfl,.nil es⟩
 | cons p ps ih =>
  intro i tm S I es out h hi;obtain⟨o,pre⟩:=p;simp only[xgo]at h;cases hd:A4 nt o.dst with
  |false=>grind
  | true =>
   rw [hd,bJ6] at h;have next : ∀ (e : Ent) (S' : Hp) (I' : Nat), e.i = i → e.o = o → e.pre = pre → e.tm = tm → e.S = S → e.I = I → aZ7 P call nt all nx0 e es (y8 tm o.dst e.r) S' I' →
     xgo P call nt all nx0 ps (i+1) (y8 tm o.dst e.r) S' I' (e::es)=some out->
     ∃s,out.es=s.reverse++es/\s.map (fun e=>(e.o,e.pre))=(o,pre)::ps/\H9 P call nt all nx0 out.tm out.S out.I es s tm S I:=by
    rintro e S' I' rfl rfl rfl rfl rfl rfl hs hx
    obtain⟨s,h1,h2,h3⟩:=ih _ _ _ _ _ _ hx (by simp[hi])
    exact⟨e::s,by simp[h1],by simp[h2],.cons e es s _ _ _ hi hs h3⟩
   cases hw:n8 all tm o with
   |false=>
    rw[hw,bJ7]at h;refine next ⟨i,o,pre,tm,S,S,I,false,undef,none⟩ S I rfl rfl rfl rfl rfl rfl ⟨hd,hw.symm,rfl,rfl,fun _=>⟨rfl,rfl⟩,fun _=>⟨rfl,rfl⟩,?_,?_,?_,?_,fun _=>rfl⟩ h<;>(intro hf;cases hf)
   |true=>
    rw[hw,bJ6]at h;split at h
    ·rename_i hk
     split at h
     ·rename_i v S2 hx
      obtain⟨r,hr⟩:=aF3 (P:=P) (call:=call) (tm:=tm) hk;have hrv:r=some v:=by
       rw[hr]at hx;exact(i8 hx).1
      refine next ⟨i,o,pre,tm,S,S,I,true,v,none⟩ S I rfl rfl rfl rfl rfl rfl ⟨hd,hw.symm,rfl,rfl,fun hf=>(by cases hf),fun _=>⟨rfl,rfl⟩,fun _ _ S=>?_,fun _ h1=>?_,fun _ h1=>?_,fun _ h1=>?_,fun _=>rfl⟩ h
      ·rw[hr,hrv];rfl
      ·grind
      ·grind
      ·grind
     ·cases h
    ·rename_i hk
     split at h
     ·rename_i v hx
      refine next ⟨i,o,pre,tm,S,S,I,true,v,none⟩ S I rfl rfl rfl rfl rfl rfl ⟨hd,hw.symm,rfl,rfl,fun hf=>(by cases hf),fun _=>⟨rfl,rfl⟩,fun _ h1=>?_,fun _ _=>hx,fun _ h1=>?_,fun _ h1=>?_,fun _=>rfl⟩ h
      ·grind
      ·grind
      ·grind
     ·cases h
    ·rename_i hk
     split at h
     ·rename_i n hx
      refine next ⟨i,o,pre,tm,S,S,I,true,n.val (nx0+i),some n⟩ S I rfl rfl rfl rfl rfl rfl ⟨hd,hw.symm,rfl,rfl,fun hf=>(by cases hf),fun _=>⟨rfl,rfl⟩,fun _ h1=>?_,fun _ h1=>?_,fun _ _=>⟨n,hx,rfl,rfl⟩,fun _ h1=>?_,fun h1=>absurd hk h1⟩ h
      ·grind
      ·grind
      ·grind
     ·cases h
    ·rename_i hk0 hk1 hk2
     have h3:d6 o.op=3:=by
      have:=an0 o.op
      grind
     split at h
     ·rename_i v S2 hx
      refine next ⟨i,o,pre,tm,S,S2,I,true,v,none⟩ S2 (I|||pre) rfl rfl rfl rfl rfl rfl ⟨hd,hw.symm,rfl,rfl,fun hf=>(by cases hf),fun hl=>?_,fun _ h1=>?_,fun _ h1=>?_,fun _ h1=>?_,fun _ _=>⟨hx,rfl⟩,fun _=>rfl⟩ h
      ·grind
      ·grind
      ·grind
      ·grind
     ·cases h
theorem H9.get {es s : List Ent} {tm : T Value} {S : Hp} {I : Nat} (h : H9 P call nt all nx0 tmN SN IN es s tm S I) : ∀ {k : Nat} {e : Ent}, s[k]? = some e →
  e.i=es.length+k/\ ∃tm' S' I',aZ7 P call nt all nx0 e ((s.take k).reverse++es) tm' S' I'/\H9 P call nt all nx0 tmN SN IN (e::((s.take k).reverse++es)) (s.drop (k+1)) tm' S' I':=by
 induction h with
 |nil es=>grind
 |cons e0 es s tm' S' I' hi hs hc ih=>grind
theorem H9.upTo {es s : List Ent} {tm : T Value} {S : Hp} {I : Nat} (h : H9 P call nt all nx0 tmN SN IN es s tm S I) : ∀ {k : Nat} {e : Ent}, s[k]? = some e →
  H9 P call nt all nx0 e.tm e.S e.I es (s.take k) tm S I:=by
 induction h with
 |nil es=>grind
 |cons e0 es s tm' S' I' hi hs hc ih=>
  intro k e h;cases k with
  |zero=>
   simp only[bJ5,bH9]at h;subst h;exact .nil es
  |succ k=>
   simp only[bJ0]at h;exact .cons e0 es _ tm' S' I' hi hs (ih h)
theorem H9.tm_none {es s:List Ent}{tm:T Value}{S:Hp}{I:Nat}(h:H9 P call nt all nx0 tmN SN IN es s tm S I){t:Nat}(hn:∀e∈s,e.o.dst≠some t):tmN.get t=tm.get t:=by
 induction h with
 |nil es=>rfl
 |cons e0 es s tm' S' I' hi hs hc ih=>
  rw[ih (fun e he=>hn e (by simp[he])),hs.tm]
  have h0:=hn e0 (by simp)
  unfold y8;cases hd:e0.o.dst with
  |none=>rfl
  |some d=>
   simp only;rw[T.get_set,bJ9 (fun e=>h0 (by rw[hd,e]))]
theorem H9.tm_some {es s : List Ent} {tm : T Value} {S : Hp} {I : Nat} (h : H9 P call nt all nx0 tmN SN IN es s tm S I) : ∀ {k : Nat} {e : Ent} {t : Nat}, s[k]? = some e → e.o.dst = some t →
  (∀(j:Nat) e',s[j]? =some e'->j≠k->e'.o.dst≠some t)->tmN.get t=some e.r:=by
 induction h with
 |nil es=>grind
 |cons e0 es s tm' S' I' hi hs hc ih=>
  intro k e t h hd hu;cases k with
  |zero=>
   simp only[bJ5,bH9]at h;subst h;have hno:∀e∈s,e.o.dst≠some t:=by
    intro e he;obtain⟨j,hj,rfl⟩:=List.mem_iff_getElem.1 he;exact hu (j+1) _ (by simp[hj]) (by omega)
   rw[hc.tm_none hno,hs.tm];unfold y8;rw[hd];simp only;rw[T.get_set,bK1 rfl]
  |succ k=>
   simp only[bJ0]at h;exact ih h hd (fun j e' hj hne=>hu (j+1) e' (by simpa using hj) (by omega))
theorem H9.still {es s:List Ent}{tm:T Value}{S:Hp}{I:Nat}(h:H9 P call nt all nx0 tmN SN IN es s tm S I)(hn:∀e∈s,d6 e.o.op≠3):SN=S/\IN=I:=by
 induction h with
 |nil es=>grind
 |cons e0 es s tm' S' I' hi hs hc ih=>
  obtain⟨h1,h2⟩:=ih (fun e he=>hn e (by simp[he]))
  obtain⟨h3,h4⟩:=hs.low (.inr (hn e0 (by simp)))
  grind
end
section
variable {P :Program}{B:BS}{w0:World}{σ:Sg}{hp:Hp}{w:World}
theorem Ext.take {id id' b b':Nat}{n n':Nw}(h:Ext B σ hp w id n b)(h':Ext B σ hp w id' n' b')(hb:b≠b'):Ext B σ (hp.take id n) w id' n' b':=by
 obtain⟨p,o,a1,a2,a3,a4,a5,a6⟩:=h';obtain⟨q,D,c1,c2,_⟩:=h;refine⟨p,o,a1,a2,a3,a4,a5,?_⟩;intro i c r hg hr;simp only[Hp.take,T.get_set]at hg
 by_cases hi:i=id
 ·subst hi
  have:r=q:=bK5 (hr.symm.trans c1);subst this;rw[c2];exact hb
 ·rw[bJ9 hi]at hg
  exact a6 i c r hg hr
theorem Ext.step {S1 S2:Hp}{id b:Nat}{n:Nw}(h:Ext B σ S1 w id n b){σ':Sg}{w':World}(k:HR (rest B σ S1 w) w σ' S2 w')(hle:Sg.le σ σ'):Ext B σ' S2 w' id n b:=by
 obtain⟨p,o,a1,a2,a3,a4,a5,a6⟩:=h;have hr:rest B σ S1 w b:= .inr ⟨(bJ4.1 a3).1,fun i c q hg hq=>a6 i c q hg hq⟩
 refine⟨p,o,hle _ _ a1,a2,by rw[k.kept b hr];exact a3,a4.mono hle,a5,?_⟩
 intro i c q hg hq heq;obtain⟨q',D,d1,d2,_⟩:=k.live i c hg;have:q'=q:=bK5 (d1.symm.trans hq);subst this;rw[heq]at d2;cases hc:S7 c with
 |true=>exact a5 (B.sub _ (d2.yes hc))
 |false=>exact d2.no hc hr
theorem Ext.lay {id id' b':Nat}{n':Nw}(h':Ext B σ hp w id' n' b')(hw:HR B w0 σ hp w)(hid:σ id=none)(pl:Pl)(o:Obj):Ext B (σ.ext id pl) hp (w.alloc o) id' n' b':=by
 obtain⟨p,C,a1,a2,a3,a4,a5,a6⟩:=h';have hle:=Sg.le_ext pl hid;refine⟨p,C,hle _ _ a1,a2,by rw[Below.heap_alloc _ _ _ (bJ4.1 a3).1];exact a3,a4.mono hle,a5,?_⟩
 intro i c q hg hq;obtain⟨q',D,d1,_⟩:=hw.live i c hg;have:=(hle _ _ d1).symm.trans hq;have:q'=q:=bK5 this;subst this;exact a6 i c q' hg d1
theorem bz8 {nx0 : Nat} {m : Nat → Bool} : ∀ (es : List Ent) {hp : Hp}, HR B w0 σ hp w →
  (∀(j:Nat) e n,es[j]? =some e->e.nw=some n->m e.i=true-> ∃b,Ext B σ hp w (nx0+e.i) n b)->
  (∀(j j':Nat) e e' n n' b b',es[j]? =some e->es[j']? =some e'->j≠j'->e.nw=some n->e'.nw=some n'->m e.i=true->m e'.i=true->Ext B σ hp w (nx0+e.i) n b->Ext B σ hp w (nx0+e'.i) n' b'->b≠b')->
  HR B w0 σ (takes nx0 m es hp) w/\(takes nx0 m es hp).nx=hp.nx/\
  ∀id' n' b',Ext B σ hp w id' n' b'->(∀(j:Nat) e n b,es[j]? =some e->e.nw=some n->m e.i=true->Ext B σ hp w (nx0+e.i) n b->b≠b')->Ext B σ (takes nx0 m es hp) w id' n' b':=by
 intro es
 induction es with
 |nil=>intro hp hw _ _;exact⟨hw,rfl,fun id' n' b' h _=>h⟩
 |cons e es ih=>
  intro hp hw h1 h2;cases hn:e.nw with
  |none=>
   simp only[takes,hn];obtain⟨a1,a2,a3⟩:=ih hw (fun j e n hj=>h1 (j+1) e n (by simpa using hj)) (fun j j' e e' n n' b b' hj hj' hne=>h2 (j+1) (j'+1) e e' n n' b b' (by simpa using hj) (by simpa using hj') (by omega))
   exact⟨a1,a2,fun id' n' b' hx hd=>a3 id' n' b' hx (fun j e n b hj=>hd (j+1) e n b (by simpa using hj))⟩
  |some n=>
   cases hm:m e.i with
   |false=>
    simp only[takes,hn,hm,bJ7];obtain⟨a1,a2,a3⟩:=ih hw (fun j e n hj=>h1 (j+1) e n (by simpa using hj)) (fun j j' e e' n n' b b' hj hj' hne=>h2 (j+1) (j'+1) e e' n n' b b' (by simpa using hj) (by simpa using hj') (by omega))
    exact⟨a1,a2,fun id' n' b' hx hd=>a3 id' n' b' hx (fun j e n b hj=>hd (j+1) e n b (by simpa using hj))⟩
   |true=>
    simp only[takes,hn,hm,bJ6];obtain⟨b,hb⟩:=h1 0 e n rfl hn hm;have hb0:∀b2,Ext B σ hp w (nx0+e.i) n b2->b2=b:=by
     intro b2 hx;obtain⟨p,_,c1,c2,_⟩:=hx;obtain⟨q,_,d1,d2,_⟩:=hb
     grind
    have keep:∀ {id':Nat} {n':Nw} {b':Nat},Ext B σ hp w id' n' b'->b≠b'->Ext B σ (hp.take (nx0+e.i) n) w id' n' b':=fun hx hne=>hb.take hx hne
    have back:∀ {id':Nat} {n':Nw} {b' b2:Nat},Ext B σ hp w id' n' b'->Ext B σ (hp.take (nx0+e.i) n) w id' n' b2->b2=b':=by
     intro id' n' b' b2 hx hy;obtain⟨p,_,c1,c2,_⟩:=hx;obtain⟨q,_,d1,d2,_⟩:=hy
     grind
    obtain⟨a1,a2,a3⟩:=ih (hp:=hp.take (nx0+e.i) n) (hw.take hb)
     (fun j e' n' hj hn' hm'=>by
      obtain⟨b',hb'⟩:=h1 (j+1) e' n' (by simpa using hj) hn' hm'
      exact⟨b',keep hb' (h2 0 (j+1) e e' n n' b b' rfl (by simpa using hj) (by omega) hn hn' hm hm' hb hb')⟩)
     (fun j j' e1 e2 n1 n2 b1 b2 hj hj' hne k1 k2 k3 k4 x1 x2=>by
      obtain⟨c1,y1⟩:=h1 (j+1) e1 n1 (by simpa using hj) k1 k3
      obtain⟨c2,y2⟩:=h1 (j'+1) e2 n2 (by simpa using hj') k2 k4
      rw[back y1 x1,back y2 x2];exact h2 (j+1) (j'+1) e1 e2 n1 n2 c1 c2 (by simpa using hj) (by simpa using hj') (by omega) k1 k2 k3 k4 y1 y2)
    refine⟨a1,a2,fun id' n' b' hx hd=>a3 id' n' b' (keep hx (hd 0 e n b rfl hn hm hb)) (fun j e1 n1 b1 hj k1 k3 x1=>?_)⟩
    obtain⟨c1,y1⟩:=h1 (j+1) e1 n1 (by simpa using hj) k1 k3
    rw[back y1 x1];exact hd (j+1) e1 n1 c1 (by simpa using hj) k1 k3 y1
end
end Go.Xe
end PartXm13
noncomputable section PartXm14
namespace Go.Xe
open Go.RowKit
def xpre (pres:List Nat)(o:Oper):Nat:=
 o.after.toList.foldl (fun s e=>bif Region.binds .any e then(s|||2^e.on)|||pres.getD e.on 0 else s) 0
def C0 :List Oper->List Nat->List Nat
 | [],acc=>acc
 |o::os,acc=>C0 os (acc++ [xpre acc o])
def bw3 (s:Nat):Operand->Nat
 | .tmp t=>s|||2^t
 |_=>s
def aA8 (all:List Oper)(o:Oper):Nat:=
 o.op.operands.toList.foldl bw3 (match o.guard with
  |some (g,_)=>match all[g]? with
   |some p=>match p.dst with
    |some d=>2^d
    |none=>0
   |none=>0
  |none=>0)
structure Inf where
 o:Oper
 pre:Nat
 i:Nat
 lk:Nat
 wr:Bool
def ba2 (all:List Oper)(pres:List Nat):List Inf:=((all.zip pres).zipIdx).map fun x=>⟨x.1.1,x.1.2,x.2,aA8 all x.1.1,Nat.beq (d6 x.1.1.op) 3⟩
def bg4 (o:Oper)(t:Nat):Bool:=match o.dst with|some d=>Nat.beq d t|none=>false
def s1 (pres:List Nat)(x:Inf):Bool:=Nat.beq x.pre (xpre pres x.o)&&x.o.after.toList.all (fun e=> !(Region.binds .any e)||Nat.blt e.on x.i)
def s2 (x y:Inf):Bool:=
 bif Nat.beq x.i y.i then true else
  (match y.o.dst with
   |none=>true
   |some t=> !(bg4 x.o t)&&(bif x.lk.testBit t then(bif Nat.blt y.i x.i then x.pre.testBit y.i else y.pre.testBit x.i)else true))&&
  (bif x.wr&&y.wr&&Nat.blt y.i x.i then x.pre.testBit y.i else true)
def stat (all:List Oper)(pres:List Nat):Bool:=
 Nat.beq pres.length all.length&&(ba2 all pres).all (s1 pres)&&(ba2 all pres).all (fun x=>(ba2 all pres).all (s2 x))
def isW (e:Ent):Bool:=Nat.beq (d6 e.o.op) 3
def T6 (es:List Ent)(e:Ent)(k:Nat):Bool:=
 es.all fun y=>bif isW y then(bif Nat.blt y.i k then !(y.pre.testBit e.i)else !(e.pre.testBit y.i))else true
def own (es:List Ent)(e:Ent)(k:Nat):Bool:=
 es.all fun y=>bif isW y then(Nat.blt y.i k==Nat.blt y.i e.i)else true
def aq4 (P:Program)(es:List Ent)(e:Ent)(k:Nat)(S:Hp):Bool:=
 bif own es e k then true else bif T6 es e k then
  (match xrd P e.tm S e.o.op with
   |some v=>veq 1000 v e.r
   |none=>false)
 else true
def dyn (P:Program)(S0:Hp)(es:List Ent):Bool:=
 es.all fun e=>bif e.wt&&Nat.beq (d6 e.o.op) 1 then aq4 P es e 0 S0&&es.all (fun x=>bif isW x then aq4 P es e (x.i+1) x.S2 else true)else true
def M4 (P:Program):F9:=fun call nt all tm hp=>
 bif stat all (C0 all [])then
  match xgo P call nt all hp.nx (all.zip (C0 all [])) 0 tm ⟨hp.m,hp.nx+all.length⟩ 0 []with
  |some out=>bif dyn P ⟨hp.m,hp.nx+all.length⟩ out.es then some (out.tm,takes hp.nx (ah3 out.I) out.es out.S)else none
  |none=>none
 else none
theorem aA2 {α : Type} (f : α → Nat → Bool) (g : Nat → α → Nat) (hg : ∀ s x j, (g s x).testBit j = true ↔ (s.testBit j = true ∨ f x j = true)) : ∀ (l : List α) (s : Nat) (j : Nat),
  (l.foldl g s).testBit j=true↔(s.testBit j=true\/ ∃x∈l,f x j=true)
 | [],s,j=>by simp
 |x::l,s,j=>by
  rw[List.foldl_cons,aA2 f g hg l (g s x) j,hg]
  grind
theorem bq8 {pres:List Nat}{o:Oper}{j:Nat}(h:(xpre pres o).testBit j=true):∃e∈o.after.toList,Region.binds .any e=true/\(e.on=j\/(pres.getD e.on 0).testBit j=true):=by
 unfold xpre at h;rw[aA2 (fun(e:Edge) j=>Region.binds .any e&&(decide (e.on=j)|| (pres.getD e.on 0).testBit j))]at h
 ·grind
 ·grind
theorem aA9 {all : List Oper} {o : Oper} {t : Nat} : (aA8 all o).testBit t = true ↔
  ((∃g want p,o.guard=some (g,want)/\all[g]? =some p/\p.dst=some t)\/Operand.tmp t∈o.op.operands.toList):=by
 unfold aA8;rw[aA2 (fun(x:Operand) j=>match x with| .tmp t=>decide (t=j)|_=>false)]
 ·constructor
  ·rintro (h| ⟨x,hx,h⟩)
   ·grind
   ·grind
  ·grind
 ·intro s x j
  cases x<;>simp[bw3,Nat.testBit_or,Nat.testBit_two_pow]
def lst (L:Array Bool)(j:Nat):Prop:=L.getD j false=true
section
variable {P :Program}{B:BS}{w0:World}{call:d8}{nt:Nat}{ops:Array Oper}{pres:List Nat}{nx0:Nat}{l:List Ent}{tm0 tmN:T Value}{S0 SN:Hp}{IN:Nat}
structure Fix (P:Program)(call:d8)(nt:Nat)(ops:Array Oper)(pres:List Nat)(nx0:Nat)(l:List Ent)(tm0 tmN:T Value)(S0 SN:Hp)(IN:Nat):Prop where
 stat:stat ops.toList pres=true
 dyn:dyn P S0 l.reverse=true
 map:l.map (fun e=>(e.o,e.pre))=ops.toList.zip pres
 chain:H9 P call nt ops.toList nx0 tmN SN IN [] l tm0 S0 0
variable (F :Fix P call nt ops pres nx0 l tm0 tmN S0 SN IN)
include F
theorem Fix.plen :pres.length=ops.size:=by
 have:=F.stat;simp only[Xe.stat,bI0]at this
 simp_all
theorem Fix.len :l.length=ops.size:=by
 have:=congrArg List.length F.map
 simpa [F.plen]using this
theorem Fix.ent {j:Nat}{o:Oper}(h:ops[j]? =some o):∃e,l[j]? =some e/\e.o=o:=by
 have hj:j<ops.size:=(bJ4.1 h).1;have hj':j<l.length:=by rw[F.len];exact hj
 refine⟨l[j],by simp[hj'],?_⟩
 have:=congrArg (fun x=>x[j]?) F.map
 grind
theorem Fix.at_ {j:Nat}{e:Ent}(h:l[j]? =some e):ops[j]? =some e.o/\e.pre=pres.getD j 0/\e.i=j:=by
 have hm:=congrArg (fun x=>x[j]?) F.map
 simp only[bM9,h,bM4]at hm;have:=List.getElem?_zip_eq_some.1 hm.symm;refine⟨by simpa using this.1,by simp[List.getD,this.2],?_⟩
 have:=(F.chain.get h).1
 grind
theorem Fix.inf {j:Nat}{e:Ent}(h:l[j]? =some e):(⟨e.o,e.pre,j,aA8 ops.toList e.o,Nat.beq (d6 e.o.op) 3⟩:Inf)∈ba2 ops.toList pres:=by
 have hm:=congrArg (fun x=>x[j]?) F.map
 simp only[bM9,h,bM4]at hm;unfold ba2;refine bQ2.2 ⟨((e.o,e.pre),j),?_,rfl⟩
 grind
theorem Fix.p1 {j : Nat} {e : Ent} (h : l[j]? = some e) : (∀ k, e.pre.testBit k = true → ∃ ed ∈ e.o.after.toList, Region.binds .any ed = true ∧ (ed.on = k ∨ (pres.getD ed.on 0).testBit k = true)) ∧
  ∀ed∈e.o.after.toList,Region.binds .any ed=true->ed.on<j:=by
 have hs:=F.stat;simp only[Xe.stat,bI0,bK9]at hs;have:=hs.1.2 _ (F.inf h);simp only[s1,bI0,bK9,bP6,bM5]at this;have he:=bI4 this.1;refine⟨fun k hk=>bq8 (by rw[<-he];exact hk),fun ed hed hb=>?_⟩
 rcases this.2 ed hed with h1|h1
 ·grind
 ·simp_all
theorem Fix.p2 {i j : Nat} {e e' : Ent} (hi : l[i]? = some e) (hj : l[j]? = some e') (hne : i ≠ j) : (∀ t, e'.o.dst = some t → e.o.dst ≠ some t) ∧
  (∀t,e'.o.dst=some t->(aA8 ops.toList e.o).testBit t=true->(j<i->e.pre.testBit j=true)/\(i<j->e'.pre.testBit i=true))/\
  (d6 e.o.op=3->d6 e'.o.op=3->j<i->e.pre.testBit j=true):=by
 have hs:=F.stat;simp only[Xe.stat,bI0,bK9]at hs;have:=hs.2 _ (F.inf hi) _ (F.inf hj);simp only[s2]at this;rw[u9 hne,bJ7,bI0]at this;obtain⟨h1,h2⟩:=this;refine⟨fun t ht hd=>?_,fun t ht hl=>?_,fun k1 k2 hlt=>?_⟩
 ·simp only[ht,bI0,bM5]at h1
  have:=h1.1;simp only[bg4,hd]at this
  simp_all
 ·simp only[ht,bI0,hl,bJ6]at h1
  have h3:=h1.2
  constructor
  ·intro hlt
   simp_all
  ·intro hlt
   have:Nat.blt j i=false:=by
    cases hb:Nat.blt j i
    ·rfl
    ·simp_all;omega
   grind
 ·rw[t7 k1,t7 k2,show Nat.blt j i=true from bI6 hlt]at h2
  grind
omit F
structure Inv (B:BS)(w0:World)(P:Program)(call:d8)(nt:Nat)(ops:Array Oper)(nx0:Nat)(l:List Ent)(tm0 tmN:T Value)(S0 SN:Hp)(IN:Nat)(σ0:Sg)(D:List Deferred)(L:Array Bool)(a:Act)(w:World)(σ:Sg)(k:Nat)(S:Hp)(I:Nat):Prop where
 size:L.size=ops.size
 down:∀j e,l[j]? =some e->lst L j-> ∀m,e.pre.testBit m=true->lst L m
 defers:a.defers=D
 tsz:a.tmps.size=nt
 tin:∀(j:Nat) e t,l[j]? =some e->lst L j->e.o.dst=some t->VR σ e.r (a.tmps.getD t undef)
 tout:∀t,(∀(j:Nat) e,l[j]? =some e->lst L j->e.o.dst≠some t)->VR σ ((tm0.get t).getD undef) (a.tmps.getD t undef)
 cut:∃tmk,H9 P call nt ops.toList nx0 tmN SN IN (l.take k).reverse (l.drop k) tmk S I
 norm:(k=0/\S=S0)\/ ∃e,0<k/\l[k-1]? =some e/\d6 e.o.op=3/\S=e.S2
 wr:∀(j:Nat) e,l[j]? =some e->d6 e.o.op=3->(lst L j↔j<k)
 hr:HR B w0 σ S w
 gr:Sg.gr nx0 S.nx σ0 σ
 room:nx0+ops.size<=S.nx
 none:∀(j:Nat) e n,l[j]? =some e->e.nw=some n-> ¬lst L j->σ (nx0+j)=none
 ext:∀(j:Nat) e n,l[j]? =some e->e.nw=some n->lst L j->I.testBit j=false-> ∃b,Ext B σ S w (nx0+j) n b
 apart:∀(j j':Nat) e e' n n' b b',l[j]? =some e->l[j']? =some e'->e.nw=some n->e'.nw=some n'->j≠j'->lst L j->lst L j'->I.testBit j=false->I.testBit j'=false->
  Ext B σ S w (nx0+j) n b->Ext B σ S w (nx0+j') n' b'->b≠b'
theorem z5 {L:Array Bool}{i j:Nat}(hi:i<L.size):lst (L.setIfInBounds i true) j↔(lst L j\/j=i):=by
 unfold lst
 by_cases h:j=i
 ·simp_all
 ·rw[getD_set_ne false (Ne.symm h)];simp[h]
theorem aD7 {L:Array Bool}{i:Nat}(h:L.getD i true=false):i<L.size/\ ¬lst L i:=by
 have hi:i<L.size:=by grind
 refine⟨hi,fun hl=>?_⟩
 unfold lst at hl
 grind
theorem aH9 {k i : Nat} {tmk : T Value} {S : Hp} {I : Nat} (hc : H9 P call nt ops.toList nx0 tmN SN IN (l.take k).reverse (l.drop k) tmk S I) {e : Ent} (he : l[i]? = some e) (hk : k ≤ i)
  (hn:∀(j:Nat) e',l[j]? =some e'->k<=j->j<i->d6 e'.o.op≠3):e.S=S/\e.I=I:=by
 have h1:(l.drop k)[i-k]? =some e:=by grind
 refine(hc.upTo h1).still fun e' hm=>?_
 obtain⟨m,hm2⟩:=bN4.1 hm
 grind
include F
theorem Fix.seen {σ0 : Sg} {D : List Deferred} {L : Array Bool} {a : Act} {w : World} {σ : Sg} {k : Nat} {S : Hp} {I : Nat} (V : Inv B w0 P call nt ops nx0 l tm0 tmN S0 SN IN σ0 D L a w σ k S I)
  {i:Nat} {e:Ent} (he:l[i]? =some e) (hpre:∀m,e.pre.testBit m=true->lst L m) (hi:¬lst L i) {t:Nat} (ht:(aA8 ops.toList e.o).testBit t=true):
  VR σ ((e.tm.get t).getD undef) (a.tmps.getD t undef):=by
 have hp:=F.chain.upTo he
 by_cases hx:∃(j:Nat) (e':Ent),j<i/\l[j]? =some e'/\e'.o.dst=some t
 ·obtain⟨j,e',hlt,hj,hd⟩:=hx
  have hlj:lst L j:=hpre j (((F.p2 he hj (by omega)).2.1 t hd ht).1 hlt)
  have:=hp.tm_some (k:=j) (e:=e') (t:=t) (by rw[bL2,bK1 hlt];exact hj) hd (fun m e2 hm hne hd2=>by
   rw[bL2]at hm;split at hm
   ·exact(F.p2 hm hj hne).1 t hd hd2
   ·exact absurd hm (by simp))
  rw[this];exact V.tin j e' t hj hlj hd
 ·have hno : ∀ e' ∈ l.take i, e'.o.dst ≠ some t := by
   intro e' hm hd;obtain⟨m,hm2⟩:=bN4.1 hm
   grind
  rw[hp.tm_none hno];refine V.tout t fun j e' hj hlj hd=>?_
  by_cases hji:j=i
  ·grind
  ·rcases Nat.lt_or_ge j i with hlt|hge
   ·grind
   ·exact hi (V.down j e' hj hlj i (((F.p2 he hj (Ne.symm hji)).2.1 t hd ht).2 (by omega)))
end
theorem aZ3 {σ : Sg} {tm : T Value} {tmps : Array Value} (ops : Array Oper) (o : Oper)
  (h:∀g want p d,o.guard=some (g,want)->ops.toList[g]? =some p->p.dst=some d->VR σ ((tm.get d).getD undef) (tmps.getD d undef)):
  Region.wanted o (yielded ops tmps)=n8 ops.toList tm o:=by
 unfold Region.wanted n8;cases hg:o.guard with
 |none=>rfl
 |some gw=>
  obtain⟨j,want⟩:=gw;simp only;have hy:yielded ops tmps j=aa9 ops.toList tm j:=by
   unfold yielded aa9;rw[Array.getElem?_toList];cases hj:ops[j]? with
   |none=>rfl
   |some p=>
    simp only[Option.bind_some];cases hd:p.dst with
    |none=>rfl
    |some d=>
     simp only[Option.bind_some];have:=h j want p d hg (by simpa using hj) hd
     by_cases hlt:d<tmps.size
     ·have e:tmps[d]? =some tmps[d]:=by simp[hlt]
      have e2:tmps.getD d undef=tmps[d]:=by simp_all
      rw[e2]at this;rw[e];cases hg:tm.get d with
      |none=>
       rw[hg,Option.getD_none]at this;generalize tmps[d]=x at this;cases this;rfl
      |some v=>
       rw[hg,bM1]at this;generalize tmps[d]=x at this;cases this<;>rfl
     ·have e:tmps[d]? =none:=Array.getElem?_eq_none (bP7 hlt)
      have e2:tmps.getD d undef=undef:=by grind
      rw[e2]at this;rw[e];cases hg:tm.get d with
      |none=>rfl
      |some v=>
       rw[hg,bM1]at this;unfold undef at this;cases this;rfl
  grind
end Go.Xe
end PartXm14
noncomputable section PartXm15
namespace Go.Xe
open Go.RowKit
section
variable {P :Program}{B:BS}{w0:World}{call:d8}{nt:Nat}{ops:Array Oper}{pres:List Nat}{nx0:Nat}{l:List Ent}{tm0 tmN:T Value}{S0 SN:Hp}{IN:Nat}
variable (F :Fix P call nt ops pres nx0 l tm0 tmN S0 SN IN)
include F
theorem Fix.before {i j:Nat}{e:Ent}(hi:i<=l.length)(h:((l.take i).reverse)[j]? =some e):j<i/\l[i-1-j]? =some e/\e.i=i-1-j:=by
 have hlen:(l.take i).length=i:=by grind
 have hj:j<i:=by grind
 rw[List.getElem?_reverse (by rw[hlen];exact hj),hlen,bL2,bK1 (by omega)]at h
 exact⟨hj,h,(F.at_ h).2.2⟩
theorem Fix.takes {σ0 : Sg} {D : List Deferred} {L : Array Bool} {a : Act} {w : World} {σ : Sg} {k : Nat} {S : Hp} {I : Nat} (V : Inv B w0 P call nt ops nx0 l tm0 tmN S0 SN IN σ0 D L a w σ k S I)
  {i:Nat} (hi:i<=l.length) (m:Nat->Bool) (hm:∀j,j<i->m j=true->lst L j/\I.testBit j=false):
  HR B w0 σ (Xe.takes nx0 m (l.take i).reverse S) w/\(Xe.takes nx0 m (l.take i).reverse S).nx=S.nx/\
  ∀(j:Nat) e n b,l[j]? =some e->e.nw=some n->lst L j->I.testBit j=false->(j<i->m j=false)->Ext B σ S w (nx0+j) n b->Ext B σ (Xe.takes nx0 m (l.take i).reverse S) w (nx0+j) n b:=by
 have H:=bz8 (B:=B) (w0:=w0) (σ:=σ) (w:=w) (nx0:=nx0) (m:=m) (l.take i).reverse V.hr
  (fun j e n hj hn hme=>by
   obtain⟨h1,h2,h3⟩:=F.before hi hj;obtain⟨h4,h5⟩:=hm _ (by omega:i-1-j<i) (h3▸hme)
   rw[h3];exact V.ext _ e n h2 hn h4 h5)
  (fun j j' e e' n n' b b' hj hj' hne hn hn' hme hme' x1 x2=>by
   obtain⟨h1,h2,h3⟩:=F.before hi hj;obtain⟨g1,g2,g3⟩:=F.before hi hj';obtain⟨h4,h5⟩:=hm _ (by omega:i-1-j<i) (h3▸hme)
   obtain⟨g4,g5⟩:=hm _ (by omega:i-1-j'<i) (g3▸hme')
   rw[h3]at x1;rw[g3]at x2;exact V.apart _ _ e e' n n' b b' h2 g2 hn hn' (by omega) h4 g4 h5 g5 x1 x2)
 refine⟨H.1,H.2.1,fun j e n b hj hn hlj hIj hmj hx=>H.2.2 _ n b hx fun j' e' n' b' hj' hn' hme' hx'=>?_⟩
 obtain⟨g1,g2,g3⟩:=F.before hi hj';obtain⟨g4,g5⟩:=hm _ (by omega:i-1-j'<i) (g3▸hme')
 rw[g3]at hx';refine V.apart _ _ e' e n' n b' b g2 hj hn' hn ?_ g4 hlj g5 hIj hx' hx
 grind
theorem Fix.read {σ0 : Sg} {D : List Deferred} {L : Array Bool} {a : Act} {w : World} {σ : Sg} {k : Nat} {S : Hp} {I : Nat} (V : Inv B w0 P call nt ops nx0 l tm0 tmN S0 SN IN σ0 D L a w σ k S I)
  {i:Nat} {e:Ent} (he:l[i]? =some e) (hpre:∀m,e.pre.testBit m=true->lst L m) (hi:¬lst L i) (hw:e.wt=true) (hk1:d6 e.o.op=1):xrd P e.tm S e.o.op=some e.r:=by
 have hei:e.i=i:=(F.at_ he).2.2;have hmem:∀ {j:Nat} {y:Ent},l[j]? =some y->y∈l.reverse:=fun h=>List.mem_reverse.2 (bI9 h)
 have hget:∀ {y:Ent},y∈l.reverse-> ∃j,l[j]? =some y/\y.i=j:=fun h=>by
  obtain⟨j,hj⟩:=bN4.1 (List.mem_reverse.1 h);exact⟨j,hj,(F.at_ hj).2.2⟩
 have hall : T6 l.reverse e k = true := by
  unfold T6;rw[bK9];intro y hy;obtain⟨j,hj,hyi⟩:=hget hy;cases hW:isW y with
  |false=>rfl
  | true =>
   have h3:d6 y.o.op=3:=bI4 hW;rw[bJ6];rw[hyi,hei]
   by_cases hlt:j<k
   ·rw[show Nat.blt j k=true from bI6 hlt,bJ6]
    have hlj:=(V.wr j y hj h3).2 hlt;cases hb:y.pre.testBit i with
    |false=>rfl
    |true=>exact absurd (V.down j y hj hlj i hb) hi
   ·have hb : Nat.blt j k = false := by
     cases hb:Nat.blt j k
     ·rfl
     ·simp_all;omega
    rw[hb,bJ7];cases hb2:e.pre.testBit j with
    |false=>rfl
    |true=>exact absurd ((V.wr j y hj h3).1 (hpre j hb2)) hlt
 obtain⟨tm',S',I',hs,hc'⟩:=(F.chain.get he).2;have hr:=hs.k1 hw hk1;have concl:aq4 P l.reverse e k S=true->xrd P e.tm S e.o.op=some e.r:=by
  intro hl;unfold aq4 at hl;cases ho:own l.reverse e k with
  |true=>
   have hno:∀(j:Nat) y,l[j]? =some y->d6 y.o.op=3->(j<k↔j<i):=by
    intro j y hj h3;unfold own at ho;rw[bK9]at ho;have:=ho y (hmem hj);have hW:isW y=true:=t7 h3;rw[hW,bJ6,(F.at_ hj).2.2,hei]at this
    constructor
    ·intro hlt
     rw[show Nat.blt j k=true from bI6 hlt]at this
     simp_all
    ·intro hlt
     rw[show Nat.blt j i=true from bI6 hlt]at this
     simp_all
   have hki:k<=i:=by
    rcases V.norm with⟨h0,_⟩| ⟨y,h0,hy,h3,_⟩
    ·omega
    ·grind
   obtain⟨tmk,hcut⟩:=V.cut;have hS:=(aH9 hcut he hki (fun j y hj h1 h2 h3=>by have:=(hno j y hj h3).2 h2;omega)).1
   grind
  |false=>
   rw[ho,bJ7,hall,bJ6]at hl;split at hl
   ·rename_i v hv
    rw[hv,as2 _ _ _ hl]
   ·cases hl
 have hd:=F.dyn;unfold Xe.dyn at hd;rw[bK9]at hd;have h0:=hd e (hmem he);have hcond:(e.wt&&Nat.beq (d6 e.o.op) 1)=true:=by simp_all
 rw[hcond,bJ6,bI0,bK9]at h0
 rcases V.norm with⟨hk,hS⟩| ⟨y,hk,hy,h3,hS⟩
 ·grind
 ·have:=h0.2 y (hmem hy)
  have hW:isW y=true:=t7 h3;rw[hW,bJ6,(F.at_ hy).2.2,show k-1+1=k by omega]at this
  grind
set_option maxHeartbeats 1000000 in
theorem Fix.step {σ0 : Sg} {D : List Deferred} {L : Array Bool} {a : Act} {w : World} {σ : Sg} {k : Nat} {S : Hp} {I : Nat} (hcall : E7 P call) (V : Inv B w0 P call nt ops nx0 l tm0 tmN S0 SN IN σ0 D L a w σ k S I)
  {i:Nat} (hr:i∈Region.ready .any ops L) (Q:Exit->Act->World->Prop) (r:Option Nat):
  wpOpIn (RF r) 0 P ops Q i (fun a' w'=>∃σ' k' S' I',Inv B w0 P call nt ops nx0 l tm0 tmN S0 SN IN σ0 D (L.setIfInBounds i true) a' w' σ' k' S' I') a w:=by
 obtain⟨hun,o,ho,hall⟩:=mem_ready.1 hr;obtain⟨hiL,hni⟩:=aD7 hun;obtain⟨e,he,heo⟩:=F.ent ho;have hei:e.i=i:=(F.at_ he).2.2;have hilen:i<l.length:=(bI2.1 he).1;have hpre:∀m,e.pre.testBit m=true->lst L m:=by
  intro m hm;obtain⟨ed,hed,hb,h⟩:=(F.p1 he).1 m hm;have hon:lst L ed.on:=hall ed (by rw[<-heo];simpa using hed) hb
  rcases h with h|h
  ·grind
  ·have hlt:=(F.p1 he).2 ed hed hb
   have hon':ed.on<l.length:=by omega
   obtain⟨e',he'⟩:∃e',l[ed.on]? =some e':=⟨l[ed.on],by simp[hon']⟩
   exact V.down ed.on e' he' hon m (by rw[(F.at_ he').2.1];exact h)
 obtain⟨tm',S',I',hs,hcn⟩:=(F.chain.get he).2;simp only[bQ9]at hs hcn;have hcn':∃tmk,H9 P call nt ops.toList nx0 tmN SN IN (l.take (i+1)).reverse (l.drop (i+1)) tmk S' I':=by
  refine⟨tm',?_⟩;have:e::(l.take i).reverse=(l.take (i+1)).reverse:=by
   rw[List.take_succ_eq_append_getElem hilen,List.reverse_append]
   grind
  grind
 have hseen:∀t,(aA8 ops.toList o).testBit t=true->VR σ ((e.tm.get t).getD undef) (a.tmps.getD t undef):=fun t ht=>F.seen V he hpre hni (by rw[heo];exact ht)
 have hER:∀x∈o.op.operands,∀v,a9 e.tm x=some v->VR σ v (a.eval x):=by
  intro x hx v hv;cases x with
  |tmp t=>
   simp only[a9,bH9]at hv;subst hv;exact hseen t (aA9.2 (.inr (by simpa using hx)))
  |const c=>
   simp only[a9]at hv;cases hc:cst c with
   |false=>grind
   |true=>simp[hc]at hv;subst hv;exact O5 σ hc
  |global g=>simp[a9]at hv
  |func f=>
   simp only[a9,bH9]at hv;subst hv;exact .func _ _ _ _ _ rfl (fun i x y h _=>by simp at h) rfl (fun i x y h _=>by simp at h)
 have hwant:Region.wanted o (yielded ops a.tmps)=e.wt:=by
  rw[hs.wt,heo];exact aZ3 ops o fun g want p d hg hp hd=>hseen d (aA9.2 (.inl ⟨g,want,p,hg,hp,hd⟩))
 have hdst:∀(j:Nat) e' t,l[j]? =some e'->j≠i->e'.o.dst=some t->o.dst≠some t:=fun j e' t hj hne ht=>by rw[<-heo];exact(F.p2 he hj (Ne.symm hne)).1 t ht
 have build : ∀ (u : Value) (σ' : Sg) (w' : World) (k' : Nat) (S2 : Hp) (I2 : Nat), Sg.le σ σ' → VR σ' e.r u →
   (∃tmk,H9 P call nt ops.toList nx0 tmN SN IN (l.take k').reverse (l.drop k') tmk S2 I2)->
   ((k'=0/\S2=S0)\/ ∃e,0<k'/\l[k'-1]? =some e/\d6 e.o.op=3/\S2=e.S2)->
   (∀(j:Nat) e,l[j]? =some e->d6 e.o.op=3->(lst (L.setIfInBounds i true) j↔j<k'))->
   HR B w0 σ' S2 w'->Sg.gr nx0 S2.nx σ0 σ'->nx0+ops.size<=S2.nx->
   (∀(j:Nat) e n,l[j]? =some e->e.nw=some n-> ¬lst (L.setIfInBounds i true) j->σ' (nx0+j)=none)->
   (∀(j:Nat) e n,l[j]? =some e->e.nw=some n->lst (L.setIfInBounds i true) j->I2.testBit j=false-> ∃b,Ext B σ' S2 w' (nx0+j) n b)->
   (∀(j j':Nat) e e' n n' b b',l[j]? =some e->l[j']? =some e'->e.nw=some n->e'.nw=some n'->j≠j'->lst (L.setIfInBounds i true) j->lst (L.setIfInBounds i true) j'->I2.testBit j=false->I2.testBit j'=false->
    Ext B σ' S2 w' (nx0+j) n b->Ext B σ' S2 w' (nx0+j') n' b'->b≠b')->
   Inv B w0 P call nt ops nx0 l tm0 tmN S0 SN IN σ0 D (L.setIfInBounds i true) (a.put o.dst u) w' σ' k' S2 I2:=by
  intro u σ' w' k' S2 I2 hle hv h1 h2 h3 h4 h5 h6 h7 h8 h9;have hput:∀t,o.dst≠some t->(a.put o.dst u).tmps.getD t undef=a.tmps.getD t undef:=by
   intro t ht;cases hd:o.dst with
   |none=>rfl
   |some d=>
    have hne:d≠t:=fun h=>ht (by rw[hd,h])
    simp[Act.put,bS0 hne]
  have hputs:∀t,o.dst=some t->(a.put o.dst u).tmps.getD t undef=u:=by
   intro t ht;have hb:A4 nt o.dst=true:=by rw[<-heo];exact hs.dst
   rw[ht]at hb⊢;have hlt:t<a.tmps.size:=by rw[V.tsz];exact bI3 hb
   simp[Act.put,hlt]
  refine⟨by simpa using V.size,?_,by rw[N3];exact V.defers,?_,?_,?_,h1,h2,h3,h4,h5,h6,h7,h8,h9⟩
  ·intro j e' hj hlj m hm
   rw[z5 hiL]at hlj⊢
   rcases hlj with hlj|rfl
   ·exact .inl (V.down j e' hj hlj m hm)
   ·have:e'=e:=bK5 (hj.symm.trans he)
    subst this;exact .inl (hpre m hm)
  ·cases hd:o.dst<;>simp[Act.put,V.tsz]
  ·intro j e' t hj hlj ht
   rw[z5 hiL]at hlj
   by_cases hji:j=i
   ·subst hji
    have:e'=e:=bK5 (hj.symm.trans he);subst this;rw[hputs t (by rw[<-heo];exact ht)]
    exact hv
   ·rw[hput t (hdst j e' t hj hji ht)]
    exact(V.tin j e' t hj (hlj.resolve_right hji) ht).mono hle
  ·intro t hno
   have hoi:o.dst≠some t:=by rw[<-heo];exact hno i e he ((z5 hiL).2 (.inr rfl))
   rw[hput t hoi];exact(V.tout t fun j e' hj hlj=>hno j e' hj ((z5 hiL).2 (.inl hlj))).mono hle
 have calm : ∀ (u : Value) (σ' : Sg) (w' : World), d6 o.op ≠ 3 → (e.nw = none) → Sg.gr S.nx S.nx σ σ' → VR σ' e.r u → HR (rest B σ S w) w σ' S w' →
   ∃σ' k' S' I',Inv B w0 P call nt ops nx0 l tm0 tmN S0 SN IN σ0 D (L.setIfInBounds i true) (a.put o.dst u) w' σ' k' S' I':=by
  intro u σ' w' hk hnw hgr hv hk';refine⟨σ',k,S,I,build u σ' w' k S I hgr.le hv V.cut V.norm (fun j e' hj h3=>?_) (V.hr.back hk') (Sg.gr_trans V.gr hgr) V.room (fun j e' n hj hn hlj=>?_) (fun j e' n hj hn hlj hI=>?_) (fun j j' e1 e2 n1 n2 b1 b2 hj hj' hn1 hn2 hne hl1 hl2 hI1 hI2 x1 x2=>?_)⟩
  ·rw[z5 hiL,<-V.wr j e' hj h3]
   constructor
   ·rintro (h|rfl)
    ·exact h
    ·have:e'=e:=bK5 (hj.symm.trans he)
     subst this;exact absurd h3 (by rw[heo];exact hk)
   ·exact .inl
  ·have hlj':¬lst L j:=fun h=>hlj ((z5 hiL).2 (.inl h))
   have hjn:j<l.length:=(bI2.1 hj).1;rw[hgr.low _ (by have:=V.room;have:=F.len;omega)]
   exact V.none j e' n hj hn hlj'
  ·have hji:j≠i:=by rintro rfl;rw[bK5 (hj.symm.trans he),hnw]at hn;cases hn
   rw[z5 hiL]at hlj;obtain⟨b,hb⟩:=V.ext j e' n hj hn (hlj.resolve_right hji) hI;exact⟨b,hb.step hk' hgr.le⟩
  ·have hji:j≠i:=by rintro rfl;rw[bK5 (hj.symm.trans he),hnw]at hn1;cases hn1
   have hji':j'≠i:=by rintro rfl;rw[bK5 (hj'.symm.trans he),hnw]at hn2;cases hn2
   rw[z5 hiL]at hl1 hl2;obtain⟨c1,y1⟩:=V.ext j e1 n1 hj hn1 (hl1.resolve_right hji) hI1;obtain⟨c2,y2⟩:=V.ext j' e2 n2 hj' hn2 (hl2.resolve_right hji') hI2;have uniq:∀ {id:Nat} {n:Nw} {b c:Nat},Ext B σ S w id n c->Ext B σ' S w' id n b->b=c:=by
    intro id n b c hx hy;obtain⟨p,_,p1,p2,_⟩:=hx;obtain⟨q,_,q1,q2,_⟩:=hy;have:=(hgr.le _ _ p1).symm.trans q1;have:p=q:=bK5 this;rw[<-p2,<-q2,this]
   rw[uniq y1 x1,uniq y2 x2];exact V.apart j j' e1 e2 n1 n2 c1 c2 hj hj' hn1 hn2 hne (hl1.resolve_right hji) (hl2.resolve_right hji') hI1 hI2 y1 y2
 have hwr:d6 o.op=3->e.S=S/\e.I=I/\k<=i/\ ∀(j:Nat) e',l[j]? =some e'->d6 e'.o.op=3->(lst (L.setIfInBounds i true) j↔j<i+1):=by
  intro h3;have h3e:d6 e.o.op=3:=by rw[heo];exact h3
  have hki:k<=i:=by
   rcases Nat.lt_or_ge i k with h|h
   ·exact absurd ((V.wr i e he h3e).2 h) hni
   ·exact h
  obtain⟨tmk,hcut⟩:=V.cut;have hlt:∀(j:Nat) e',l[j]? =some e'->d6 e'.o.op=3->j<i->lst L j:=fun j e' hj k3 hlt=>hpre j ((F.p2 he hj (by omega)).2.2 h3e k3 hlt)
  have hst:=aH9 hcut he hki (fun j e' hj h1 h2 k3=>by have:=(V.wr j e' hj k3).1 (hlt j e' hj k3 h2);omega)
  refine⟨hst.1,hst.2,hki,fun j e' hj k3=>?_⟩
  rw[z5 hiL]
  constructor
  ·rintro (h|rfl)
   ·rcases Nat.lt_or_ge i j with h'|h'
    ·exact absurd (V.down j e' hj h i ((F.p2 hj he (by omega)).2.2 k3 h3e h')) hni
    ·omega
   ·omega
  ·intro h
   by_cases hji:j=i
   ·exact .inr hji
   ·exact .inl (hlt j e' hj k3 (by omega))
 unfold wpOpIn;simp only[ho];rw[hwant];cases hwt:e.wt with
 |false=>
  rw[bJ9 (by simp)]
  refine⟨fun _ _=>trivial,?_⟩
  obtain⟨hru,hnw⟩:=hs.un hwt
  by_cases h3:d6 o.op=3
  ·obtain⟨e1,e2,hki,hw3⟩:=hwr h3
   obtain⟨l1,l2⟩:=hs.low (.inl hwt);have h3e:d6 e.o.op=3:=by rw[heo];exact h3
   refine⟨σ,i+1,S',I',build undef σ w (i+1) S' I' (Sg.le_refl σ) (by rw[hru];exact VR.undef σ) hcn' (.inr ⟨e,by omega,he,h3e,hs.S2.symm⟩) hw3
    (by rw[l1,e1];exact V.hr) (by rw[l1,e1];exact V.gr) (by rw[l1,e1];exact V.room) (fun j e' n hj hn hlj=>?_) (fun j e' n hj hn hlj hI=>?_) (fun j j' f1 f2 n1 n2 b1 b2 hj hj' hn1 hn2 hne hl1 hl2 hI1 hI2 x1 x2=>?_)⟩
   ·exact V.none j e' n hj hn (fun h=>hlj ((z5 hiL).2 (.inl h)))
   ·have hji:j≠i:=by rintro rfl;rw[bK5 (hj.symm.trans he),hnw]at hn;cases hn
    rw[z5 hiL]at hlj;rw[l1,e1];rw[l2,e2]at hI;exact V.ext j e' n hj hn (hlj.resolve_right hji) hI
   ·have hji:j≠i:=by rintro rfl;rw[bK5 (hj.symm.trans he),hnw]at hn1;cases hn1
    have hji':j'≠i:=by rintro rfl;rw[bK5 (hj'.symm.trans he),hnw]at hn2;cases hn2
    rw[z5 hiL]at hl1 hl2;rw[l1,e1]at x1 x2;rw[l2,e2]at hI1 hI2;exact V.apart j j' f1 f2 n1 n2 b1 b2 hj hj' hn1 hn2 hne (hl1.resolve_right hji) (hl2.resolve_right hji') hI1 hI2 x1 x2
  ·exact calm undef σ w h3 hnw (Sg.gr_refl _ σ) (by rw[hru];exact VR.undef σ) V.hr.max
 | true =>
  rw[bK1 rfl]
  by_cases h0:d6 o.op=0
  ·have hx:=hs.k0 hwt (by rw[heo];exact h0) S
   rw[heo]at hx;exact X5 hcall hx hER V.hr.max _ Q (fun σ' u w' hgr hv hw'=>calm u σ' w' (by omega) (hs.nw (by rw[heo];omega)) hgr hv hw') r
  by_cases h1:d6 o.op=1
  ·have hx:=bE8 (call:=call) (by rw[heo];exact h1) (F.read V he hpre hni hwt (by rw[heo];exact h1))
   rw[heo]at hx;exact X5 hcall hx hER V.hr.max _ Q (fun σ' u w' hgr hv hw'=>calm u σ' w' (by omega) (hs.nw (by rw[heo];omega)) hgr hv hw') r
  by_cases h2:d6 o.op=2
  ·obtain ⟨n, hx, hrv, hnw⟩ := hs.k2 hwt (by rw [heo]; exact h2)
   rw[heo]at hx;obtain⟨sm,hes,hlen,ob,siz,z,hbr,hrun⟩:=aL3 (σ:=σ) hx hER;have hid:σ (nx0+i)=none:=V.none i e n he hnw hni;have hlt:nx0+i<S.nx:=by have:=V.room;have:=F.len;omega
   obtain⟨hl1,hl2⟩:=V.hr.lay hid hlt n (p:=⟨w.heap.size,0,siz,z⟩) rfl (hbr _);have hle:=Sg.le_ext (σ:=σ) (i:=nx0+i) ⟨w.heap.size,0,siz,z⟩ hid;refine d7 (fun c hc=>by rw[hc]at h2;cases h2) ?_
   unfold Oper.wp;rw[hes,bK8,hrun w,bK4,bL3,bR8];refine⟨_,k,S,I,build _ _ _ k S I hle ?_ V.cut V.norm (fun j e' hj h3=>?_) hl1 ⟨Sg.le_trans V.gr.le hle,fun j hj=>(Sg.ext_other _ _ _ (by omega)).trans (V.gr.low j hj),V.gr.nx⟩ V.room (fun j e' n' hj hn hlj=>?_) (fun j e' n' hj hn hlj hI=>?_)
    (fun j j' f1 f2 n1 n2 b1 b2 hj hj' hn1 hn2 hne hlj1 hlj2 hI1 hI2 x1 x2=>?_)⟩
   ·rw[hrv,hei]
    exact Nw.val_VR hlen _ _ _ _
   ·rw[z5 hiL,<-V.wr j e' hj h3]
    constructor
    ·rintro (h|rfl)
     ·exact h
     ·have:e'=e:=bK5 (hj.symm.trans he)
      subst this;rw[heo]at h3;omega
    ·exact .inl
   ·have hji:j≠i:=by rintro rfl;exact hlj ((z5 hiL).2 (.inr rfl))
    rw[Sg.ext_other _ _ _ (by omega)]
    exact V.none j e' n' hj hn (fun h=>hlj ((z5 hiL).2 (.inl h)))
   ·by_cases hji:j=i
    ·subst hji
     have:e'=e:=bK5 (hj.symm.trans he);subst this;have:n'=n:=bK5 (hn.symm.trans hnw);subst this;exact⟨_,hl2⟩
    ·rw[z5 hiL]at hlj
     obtain⟨b,hb⟩:=V.ext j e' n' hj hn (hlj.resolve_right hji) hI;exact⟨b,hb.lay V.hr hid _ _⟩
   ·
    have old : ∀ (j : Nat) (f : Ent) (n' : Nw) (b : Nat), l[j]? = some f → f.nw = some n' → j ≠ i → lst (L.setIfInBounds i true) j → I.testBit j = false →
      Ext B (σ.ext (nx0+i) ⟨w.heap.size,0,siz,z⟩) S (w.alloc ob) (nx0+j) n' b->Ext B σ S w (nx0+j) n' b/\b<w.heap.size:=by
     intro j f n' b hj hn hji hlj hI hx;rw[z5 hiL]at hlj;obtain⟨c,hc⟩:=V.ext j f n' hj hn (hlj.resolve_right hji) hI;have hcc:=hc;obtain⟨p,C,p1,p2,p5,_⟩:=hc;obtain⟨q,_,q1,q2,_⟩:=hx;have:=(hle _ _ p1).symm.trans q1;have:p=q:=bK5 this;have hbc:b=c:=by rw[<-p2,<-q2,this]
     subst hbc;exact⟨hcc,(bJ4.1 p5).1⟩
    have new:∀(n':Nw) (b:Nat),Ext B (σ.ext (nx0+i) ⟨w.heap.size,0,siz,z⟩) S (w.alloc ob) (nx0+i) n' b->b=w.heap.size:=by
     intro n' b hx;obtain⟨q,_,q1,q2,_⟩:=hx;rw[Sg.ext_same]at q1;rw[<-q2,<-bK5 q1]
    by_cases hji:j=i
    ·subst hji
     have hj2:j'≠j:=Ne.symm hne;have:=(old j' f2 n2 b2 hj' hn2 hj2 hlj2 hI2 x2).2;rw[new n1 b1 x1];omega
    ·by_cases hji':j'=i
     ·subst hji'
      have:=(old j f1 n1 b1 hj hn1 hji hlj1 hI1 x1).2;rw[new n2 b2 x2];omega
     ·have o1:=(old j f1 n1 b1 hj hn1 hji hlj1 hI1 x1).1
      have o2:=(old j' f2 n2 b2 hj' hn2 hji' hlj2 hI2 x2).1;rw[z5 hiL]at hlj1 hlj2;exact V.apart j j' f1 f2 n1 n2 b1 b2 hj hj' hn1 hn2 hne (hlj1.resolve_right hji) (hlj2.resolve_right hji') hI1 hI2 o1 o2
  ·
   have h3:d6 o.op=3:=by have:=an0 o.op;omega
   have h3e:d6 e.o.op=3:=by rw[heo];exact h3
   obtain⟨e1,e2,hki,hw3⟩:=hwr h3;obtain⟨hx,hI'⟩:=hs.k3 hwt (by omega)
   rw[heo,e1,e2]at hx;rw[e2]at hI';obtain⟨T1,T2,T3⟩:=F.takes V (i:=i) (by omega) (aj5 e.pre I) (fun j hj hm=>by
    simp only[aj5,bI0,bM5]at hm;exact⟨hpre j hm.1,hm.2⟩)
   refine X5 hcall hx hER T1.max _ Q (fun σ' u w' hgr hv hw'=>?_) r
   rw[T2]at hgr;have keep:∀(j:Nat) (f:Ent) (n:Nw),l[j]? =some f->f.nw=some n->lst L j->I'.testBit j=false-> ∃b,Ext B σ S w (nx0+j) n b/\Ext B σ' S' w' (nx0+j) n b:=by
    intro j f n hj hn hlj hI;rw[hI',Nat.testBit_or,Bool.or_eq_false_iff]at hI;obtain⟨b,hb⟩:=V.ext j f n hj hn hlj hI.1;exact⟨b,hb,(T3 j f n b hj hn hlj hI.1 (fun _=>by simp[aj5,hI.2]) hb).step hw' hgr.le⟩
   have hnw:e.nw=none:=hs.nw (by omega)
   refine⟨σ',i+1,S',I',build u σ' w' (i+1) S' I' hgr.le hv hcn' (.inr ⟨e,by omega,he,h3e,hs.S2.symm⟩) hw3 (T1.back hw') (Sg.gr_trans V.gr hgr) (by have:=V.room;have:=hgr.nx;omega) (fun j e' n hj hn hlj=>?_) (fun j e' n hj hn hlj hI=>?_)
    (fun j j' f1 f2 n1 n2 b1 b2 hj hj' hn1 hn2 hne hl1 hl2 hI1 hI2 x1 x2=>?_)⟩
   ·have hjn:j<l.length:=(bI2.1 hj).1
    rw[hgr.low _ (by have:=V.room;have:=F.len;omega)]
    exact V.none j e' n hj hn (fun h=>hlj ((z5 hiL).2 (.inl h)))
   ·have hji:j≠i:=by rintro rfl;rw[bK5 (hj.symm.trans he),hnw]at hn;cases hn
    rw[z5 hiL]at hlj;obtain⟨b,_,hb⟩:=keep j e' n hj hn (hlj.resolve_right hji) hI;exact⟨b,hb⟩
   ·have hji:j≠i:=by rintro rfl;rw[bK5 (hj.symm.trans he),hnw]at hn1;cases hn1
    have hji':j'≠i:=by rintro rfl;rw[bK5 (hj'.symm.trans he),hnw]at hn2;cases hn2
    rw[z5 hiL]at hl1 hl2;obtain⟨c1,y1,z1⟩:=keep j f1 n1 hj hn1 (hl1.resolve_right hji) hI1;obtain⟨c2,y2,z2⟩:=keep j' f2 n2 hj' hn2 (hl2.resolve_right hji') hI2;have uniq:∀ {id:Nat} {n:Nw} {b c:Nat},Ext B σ' S' w' id n c->Ext B σ' S' w' id n b->b=c:=by
     intro id n b c hx hy;obtain⟨p,_,p1,p2,_⟩:=hx;obtain⟨q,_,q1,q2,_⟩:=hy;have:p=q:=bK5 (p1.symm.trans q1);rw[<-p2,<-q2,this]
    rw[uniq z1 x1,uniq z2 x2];rw[hI',Nat.testBit_or,Bool.or_eq_false_iff]at hI1 hI2;exact V.apart j j' f1 f2 n1 n2 c1 c2 hj hj' hn1 hn2 hne (hl1.resolve_right hji) (hl2.resolve_right hji') hI1.1 hI2.1 y1 y2
theorem Fix.all {L:Array Bool}(hsz:L.size=ops.size)(hr:Region.ready .any ops L=[]):∀j,j<ops.size->lst L j:=by
 intro j
 induction j using Nat.strongRecOn with
 |_ j ih=>
  intro hj
  by_cases hl:lst L j
  ·exact hl
  ·exfalso
   have hm:j∈Region.ready .any ops L:=by
    refine mem_ready.2 ⟨?_,ops[j],by simp[hj],fun ed hed hb=>?_⟩
    ·unfold lst at hl
     have:j<L.size:=by omega
     simp[this]at hl⊢;exact hl
    ·obtain⟨e,he,heo⟩:=F.ent (o:=ops[j]) (j:=j) (by simp[hj])
     have:=(F.p1 he).2 ed (by rw[heo];simpa using hed) hb
     exact ih ed.on this (by omega)
   rw[hr]at hm;cases hm
theorem Fix.ends {σ0 : Sg} {D : List Deferred} {L : Array Bool} {a : Act} {w : World} {σ : Sg} {k : Nat} {S : Hp} {I : Nat} (V : Inv B w0 P call nt ops nx0 l tm0 tmN S0 SN IN σ0 D L a w σ k S I)
  (hall:∀j,j<ops.size->lst L j):ab7 nx0 B w0 σ0 nt .normal tmN (Xe.takes nx0 (ah3 IN) l.reverse SN) D .normal a w:=by
 obtain⟨tmk,hcut⟩:=V.cut;have hlist:∀ {j:Nat} {e:Ent},l[j]? =some e->lst L j:=fun h=>hall _ (by have:=(bI2.1 h).1;have:=F.len;omega)
 have hst:=hcut.still (fun e hm=>by
  obtain⟨m,hm2⟩:=bN4.1 hm;rw[bL8]at hm2;intro h3;have:=(V.wr _ e hm2 h3).1 (hlist hm2);omega)
 obtain⟨T1,T2,_⟩:=F.takes V (i:=l.length) (bK2 _) (ah3 IN) (fun j hj hm=>by
  have:l[j]? =some l[j]:=by simp[hj]
  refine⟨hlist this,?_⟩;rw[<-hst.2]
  simpa [ah3]using hm)
 rw[List.take_length]at T1 T2;rw[<-hst.1]at T1 T2;refine⟨rfl,V.defers,σ,by rw[T2,hst.1];exact V.gr,⟨V.tsz,fun t=>?_⟩,T1⟩
 by_cases hx:∃(j:Nat) (e:Ent),l[j]? =some e/\e.o.dst=some t
 ·obtain⟨j,e,hj,hd⟩:=hx
  rw[F.chain.tm_some hj hd (fun m e2 hm hne hd2=>(F.p2 hm hj hne).1 t hd hd2)]
  exact V.tin j e t hj (hlist hj) hd
 ·rw [F.chain.tm_none (fun e he hd => by
   obtain⟨m,hm⟩:=bN4.1 he;exact hx ⟨m,e,hm,hd⟩)]
  exact V.tout t (fun j e hj _ hd=>hx ⟨j,e,hj,hd⟩)
omit F
def au8 (L:Array Bool):Nat:=(L.toList.filter (fun b=> !b)).length
theorem az9 :∀(l:List Bool) (i:Nat),l[i]? =some false->((l.set i true).filter (fun b=> !b)).length+1=(l.filter (fun b=> !b)).length
 | [],i,h=>by simp at h
 |b::l,0,h=>by simp at h;subst h;simp
 |b::l,i+1,h=>by
  have:=az9 l i (by simpa using h)
  cases b<;>simp[this]
theorem an1 {L:Array Bool}{i:Nat}(h:L.getD i true=false):au8 (L.setIfInBounds i true)+1=au8 L:=by
 have hi:=(aD7 h).1;unfold au8;rw[Array.toList_setIfInBounds];refine az9 L.toList i ?_;simp[hi]at h⊢;exact h
include F
theorem Fix.any {σ0 : Sg} {D : List Deferred} (hcall : E7 P call) (r : Option Nat) : ∀ (fuel : Nat) (L : Array Bool) (a : Act) (w : World) (σ : Sg) (k : Nat) (S : Hp) (I : Nat), au8 L = fuel → Inv B w0 P call nt ops nx0 l tm0 tmN S0 SN IN σ0 D L a w σ k S I →
  wpAnyIn (RF r) 0 P .any ops (ab7 nx0 B w0 σ0 nt .normal tmN (Xe.takes nx0 (ah3 IN) l.reverse SN) D) fuel L a w:=by
 intro fuel
 induction fuel with
 |zero=>
  intro L a w σ k S I hf V;have hr:Region.ready .any ops L=[]:=by
   cases hrd:Region.ready .any ops L with
   |nil=>rfl
   |cons i r=>
    have:i∈Region.ready .any ops L:=by rw[hrd];simp
    have:=an1 (mem_ready.1 this).1;omega
  exact⟨hr,F.ends V (F.all V.size hr)⟩
 |succ fuel ih=>
  intro L a w σ k S I hf V;refine⟨fun hr=>F.ends V (F.all V.size hr),fun i hi=>?_⟩
  have hop:=an1 (mem_ready.1 hi).1;refine wpOpIn_mono (fun a' w' hV=>?_) (F.step hcall V hi _ r)
  obtain⟨σ',k',S',I',V'⟩:=hV;exact ih _ a' w' σ' k' S' I' (by omega) V'
end
theorem as6 {P : Program} {call : d8} (hcall : E7 P call) {nt : Nat} {ops : Array Oper} {tm : T Value} {hp : Hp} {tm' : T Value} {hp' : Hp} (h : M4 P call nt ops.toList tm hp = some (tm', hp')) {B : BS} {w0 : World} {σ : Sg} {a : Act} {w : World} (ht : TR σ nt tm a.tmps) (hw : HR B w0 σ hp w) (r : Option Nat) :
  wpAnyIn (RF r) 0 P .any ops (ab7 hp.nx B w0 σ nt .normal tm' hp' a.defers) ops.size (Array.replicate ops.size false) a {w with drawn:=w.drawn+1}:=by
 unfold M4 at h;cases hst:stat ops.toList (C0 ops.toList [])with
 |false=>rw[hst]at h;cases h
 |true=>
  rw[hst,bJ6]at h;split at h
  ·rename_i out hgo
   cases hdy:dyn P ⟨hp.m,hp.nx+ops.toList.length⟩ out.es with
   |false=>rw[hdy]at h;cases h
   |true=>
    rw[hdy,bJ6]at h;simp only[bH9,bI1]at h;obtain⟨rfl,rfl⟩:=h;obtain⟨l,h1,h2,h3⟩:=bq1 _ 0 tm _ 0 [] out hgo rfl;rw[bQ9]at h1;have F:Fix P call nt ops (C0 ops.toList []) hp.nx l tm out.tm ⟨hp.m,hp.nx+ops.toList.length⟩ out.S out.I:=⟨hst,by rw[<-h1];exact hdy,h2,h3⟩
    rw[h1];have hopen:au8 (Array.replicate ops.size false)=ops.size:=by simp[au8]
    refine F.any (B:=B) (w0:=w0) (σ0:=σ) hcall r ops.size _ a _ σ 0 ⟨hp.m,hp.nx+ops.toList.length⟩ 0 hopen ?_;have hno:∀j,¬lst (Array.replicate ops.size false) j:=by
     intro j hl;unfold lst at hl
     by_cases hj:j<ops.size<;>simp[hj]at hl
    have hr:HR B w0 σ ⟨hp.m,hp.nx+ops.toList.length⟩ w.drew:=
     ⟨hw.os,hw.tape,hw.output,hw.size,hw.old,hw.kept,fun i hi=>hw.fresh i (by simp at hi;omega),hw.live,hw.inj⟩
    refine⟨by simp,fun j e hj hl=>absurd hl (hno j),rfl,ht.size,fun j e t hj hl=>absurd hl (hno j),fun t _=>ht.at_ t,⟨tm,by simpa using h3⟩,.inl ⟨rfl,rfl⟩,fun j e hj _=>⟨fun h=>absurd h (hno j),fun h=>by omega⟩,
     hr,⟨Sg.le_refl σ,fun _ _=>rfl,by simp⟩,by simp,fun j e n hj hn _=>?_,fun j e n hj hn hl=>absurd hl (hno j),fun j j' e e' n n' b b' hj hj' hn hn' hne hl=>absurd hl (hno j)⟩
    exact hw.fresh _ (by omega)
  ·cases h
theorem bA5 {P:Program}(hm:P.follows .mixedOrders=true):X9 P (M4 P):=
 fun _ hcall _ _ _ _ _ _ _ h _ _ _ _ _ ht hw r=>wpIn_region_any hm (as6 hcall h ht hw r)
end Go.Xe
end PartXm15
noncomputable section PartXmD
namespace Go.Xe
open Go.RowKit
def aZ5 (ops:Array Oper)(l:List Nat):Prop:=
 ∀l1 i l2,l=l1++i::l2-> ∃o,ops[i]? =some o/\ ∀e∈o.after,Region.binds .any e=true->e.on∈l1
structure M7 (ops:Array Oper)(l:List Nat):Prop where
 nodup:l.Nodup
 mem:∀i,i∈l↔i<ops.size
 behind:aZ5 ops l
theorem ao3 {r : Option Nat} {P : Program} {ops : Array Oper} {Q : Exit → Act → World → Prop} {l : List Nat} (hl : M7 ops l) : ∀ (l2 l1 : List Nat) (L : Array Bool) (fuel : Nat) (a : Act) (w : World), l = l1 ++ l2 → L.size = ops.size →
  (∀j,j<ops.size->(L.getD j false=true↔j∈l1))->wpAnyIn (RF r) 0 P .any ops Q fuel L a w->wpOpsIn (RF r) 0 P ops Q l2 a w:=by
 intro l2
 induction l2 with
 |nil=>
  intro l1 L fuel a w he hs hL h;rw[bQ9]at he;subst he;have hr:Region.ready .any ops L=[]:=by
   cases hrd:Region.ready .any ops L with
   |nil=>rfl
   |cons i rr=>
    have hi:i∈Region.ready .any ops L:=by grind
    obtain⟨hun,o,ho,_⟩:=mem_ready.1 hi;have hlt:i<ops.size:=(bJ4.1 ho).1;have h1:=(hL i hlt).2 ((hl.mem i).2 hlt)
    grind
  cases fuel with
  |zero=>exact h.2
  |succ fuel=>exact h.1 hr
 |cons i l2 ih=>
  intro l1 L fuel a w he hs hL h;have hmem:i∈l:=by grind
  have hlt:i<ops.size:=(hl.mem i).1 hmem;obtain⟨o,ho,hdep⟩:=hl.behind l1 i l2 he;have hni:i∉l1:=by
   intro hc;have:=hl.nodup
   grind
  have hi:i∈Region.ready .any ops L:=by
   refine mem_ready.2 ⟨?_,o,ho,fun e he1 hb=>?_⟩
   ·grind
   ·have hon:=hdep e he1 hb
    have honlt:e.on<ops.size:=(hl.mem _).1 (by rw[he];simp[hon])
    grind
  cases fuel with
  |zero=>rw[h.1]at hi;cases hi
  |succ fuel=>
   rw[wpOpsIn_cons];refine wpOpIn_mono (fun a' w' hh=>?_) (h.2 i hi)
   refine ih (l1++ [i]) (L.setIfInBounds i true) fuel a' w' (by rw[he];simp) (by simpa using hs) (fun j hj=>?_) hh
   have hiL:i<L.size:=by omega
   have:=z5 (L:=L) (i:=i) (j:=j) hiL;unfold lst at this
   grind
theorem bn8 {ops:Array Oper}{L:Array Bool}(hsz:L.size=ops.size)(hback:∀(i:Nat) o,ops[i]? =some o-> ∀e∈o.after,Region.binds .any e=true->e.on<i)(hr:Region.ready .any ops L=[]):∀j,j<ops.size->L.getD j false=true:=by
 intro j
 induction j using Nat.strongRecOn with
 |_ j ih=>
  intro hj;cases hg:L.getD j false with
  |true=>rfl
  |false=>
   exfalso
   have hm:j∈Region.ready .any ops L:=by
    refine mem_ready.2 ⟨?_,ops[j],by simp[hj],fun e he hb=>?_⟩
    ·grind
    ·grind
   grind
theorem bl6 {ops : Array Oper} (hback : ∀ (i : Nat) o, ops[i]? = some o → ∀ e ∈ o.after, Region.binds .any e = true → e.on < i) : ∀ (fuel t : Nat) (L : Array Bool) (l1 : List Nat), L.size = ops.size → (∀ j, j < ops.size → (L.getD j false = true ↔ j ∈ l1)) →
  l1.Nodup->(∀i∈l1,i<ops.size)->aZ5 ops l1->au8 L<=fuel->M7 ops (Region.linearise.go .any ops fuel t L l1.reverse):=by
 intro fuel;have done:∀(L:Array Bool) (l1:List Nat),L.size=ops.size->(∀j,j<ops.size->(L.getD j false=true↔j∈l1))->l1.Nodup->(∀i∈l1,i<ops.size)->aZ5 ops l1->Region.ready .any ops L=[]->M7 ops l1:=by
  intro L l1 hs hL hn hm hb hr;exact⟨hn,fun i=>⟨hm i,fun hi=>(hL i hi).1 (bn8 hs hback hr i hi)⟩,hb⟩
 induction fuel with
 |zero=>
  intro t L l1 hs hL hn hm hb ho;simp only[Region.linearise.go,List.reverse_reverse];refine done L l1 hs hL hn hm hb ?_;cases hrd:Region.ready .any ops L with
  |nil=>rfl
  |cons i rr=>
   have hi:i∈Region.ready .any ops L:=by grind
   have:=an1 (mem_ready.1 hi).1;omega
 | succ fuel ih =>
  intro t L l1 hs hL hn hm hb ho;simp only[Region.linearise.go]
  change M7 ops (match(Region.ready .any ops L)[t % (Region.ready .any ops L).length]? with
   |some i=>Region.linearise.go .any ops fuel (t/ (Region.ready .any ops L).length) (L.setIfInBounds i true) (i::l1.reverse)
   |none=>l1.reverse.reverse)
  cases hi:(Region.ready .any ops L)[t % (Region.ready .any ops L).length]? with
  |none=>
   have hnil:Region.ready .any ops L=[]:=by
    cases hr:Region.ready .any ops L with
    |nil=>rfl
    |cons x xs=>
     rw[hr]at hi;have hlt:t % (x::xs).length<(x::xs).length:=Nat.mod_lt _ (by simp)
     grind
   grind
  | some i =>
   have him:=bI9 hi;obtain⟨hun,o,ho2,hdep⟩:=mem_ready.1 him;have hlt:i<ops.size:=(bJ4.1 ho2).1;have hu:=aD7 hun;have hni:i∉l1:=fun hc=>hu.2 ((hL i hlt).2 hc)
   have hop:=an1 hun;have e1:i::l1.reverse=(l1++ [i]).reverse:=by simp
   simp only[];rw[e1];refine ih _ (L.setIfInBounds i true) (l1++ [i]) (by simpa using hs) (fun j hj=>?_) ?_ ?_ ?_ (by omega)
   ·have:=z5 (L:=L) (i:=i) (j:=j) hu.1
    unfold lst at this
    grind
   ·grind
   ·grind
   ·intro k1 j k2 he
    rcases List.eq_nil_or_concat k2 with rfl| ⟨k3,z,rfl⟩
    ·have h1 : l1 = k1 ∧ i = j := by
      simp_all
     grind
    ·have h1 : l1 = k1 ++ j :: k3 := by
      simp_all
     exact hb k1 j k3 h1
theorem aw8 {ops:Array Oper}(hback:∀(i:Nat) o,ops[i]? =some o-> ∀e∈o.after,Region.binds .any e=true->e.on<i)(t:Nat):M7 ops (Region.schedule true ops t):=by
 simp only[Region.schedule,Bool.true_or,bR1,Region.linearise];refine bl6 hback ops.size t (Array.replicate ops.size false) [] (by simp) (fun j hj=>?_) (by simp) (fun i hi=>by cases hi) (fun k1 i k2 he=>by simp at he) ?_
 ·simp[hj]
 ·simp[au8]
def c9 (ops:Array Oper)(x y:Nat)(g:Ground):Array Oper:=ops.modify y fun o=> {o with after:=o.after.push ⟨x,g⟩}
theorem M2 {ops:Array Oper}{x y:Nat}{g:Ground}{i:Nat}:(c9 ops x y g)[i]? =if y=i then(ops[i]?).map fun o=> {o with after:=o.after.push ⟨x,g⟩}else ops[i]? :=by
 unfold c9
 grind
theorem M7.edge {ops : Array Oper} {x y : Nat} {g : Ground} {l1 l2 : List Nat} (h : M7 ops (l1 ++ y :: l2)) (hx : x ∈ l1) : M7 (c9 ops x y g) (l1 ++ y :: l2) := by
 refine⟨h.nodup,fun i=>by rw[h.mem i];simp[c9],fun k1 i k2 he=>?_⟩
 obtain⟨o,ho,hd⟩:=h.behind k1 i k2 he;rw[M2]
 by_cases hi:y=i
 ·subst hi
  rw[bK1 rfl,ho];refine⟨_,rfl,fun e hee hb=>?_⟩
  rcases Array.mem_push.1 hee with hee|rfl
  ·grind
  ·have hy1 : y ∉ l1 := fun hc => by
    have:=h.nodup
    grind
   have hy2:y∉k1:=fun hc=>by
    have:=h.nodup
    grind
   have e1:l1=k1:=by
    rcases List.append_eq_append_iff.1 he with⟨c,c1,c2⟩| ⟨c,c1,c2⟩
    ·cases c with
     |nil=>grind
     |cons c0 c=>grind
    ·cases c with
     |nil=>grind
     |cons c0 c=>grind
   grind
 ·grind
theorem M7.first {ops:Array Oper}{l:List Nat}(h:M7 ops l){x y:Nat}(hx:x<ops.size)(hy:y<ops.size)(hne:x≠y):(∃l1 l2,l=l1++y::l2/\x∈l1)\/(∃l1 l2,l=l1++x::l2/\y∈l1):=by
 obtain⟨l1,l2,e⟩:=List.append_of_mem ((h.mem y).2 hy);have hxl:=(h.mem x).2 hx;rw[e]at hxl
 rcases bL6.1 hxl with h1|h1
 ·grind
 ·rcases bL7.1 h1 with h1|h1
  ·grind
  ·obtain⟨m1,m2,e2⟩:=List.append_of_mem h1
   grind
structure br1 (ops ops':Array Oper)(ρ:Nat->Nat):Prop where
 get:∀(i:Nat) o,ops[i]? =some o-> ∃o',ops'[ρ i]? =some o'/\o'.op=o.op/\o'.dst=o.dst/\o'.type=o.type/\o'.guard=o.guard.map (fun g=>(ρ g.1,g.2))
 yielded:∀tmps (i:Nat) o g,ops[i]? =some o->o.guard=some g->yielded ops' tmps (ρ g.1)=yielded ops tmps g.1
theorem be1 {F:Fence}{n:Nat}{P:Program}{o o':Oper}{a:Act}{w:World}{K:Act->World->Prop}{Q:Exit->Act->World->Prop}(h1:o'.op=o.op)(h2:o'.dst=o.dst)(h3:o'.type=o.type)(h:o'.wpIn F n P a w K Q):o.wpIn F n P a w K Q:=by
 obtain⟨d,op,ty,ps,af,g⟩:=o;obtain⟨d',op',ty',ps',af',g'⟩:=o';simp only at h1 h2 h3;subst h1 h2 h3;exact h
theorem J0 {F:Fence}{n:Nat}{P:Program}{ops ops':Array Oper}{ρ:Nat->Nat}(ha:br1 ops ops' ρ){Q:Exit->Act->World->Prop}:∀(l:List Nat) {a:Act} {w:World},(∀i∈l,i<ops.size)->wpOpsIn F n P ops' Q (l.map ρ) a w->wpOpsIn F n P ops Q l a w
 | [],_,_,_,h=>h
 |i::l,a,w,hl,h=>by
  have hlt:=hl i (by simp)
  have ho:ops[i]? =some ops[i]:=by simp[hlt]
  obtain⟨o',h1,h2,h3,h4,h5⟩:=ha.get i _ ho;have hl':∀j∈l,j<ops.size:=fun j hj=>hl j (by simp[hj])
  have hwant:Region.wanted o' (yielded ops' a.tmps)=Region.wanted ops[i] (yielded ops a.tmps):=by
   unfold Region.wanted;rw[h5];cases hg:ops[i].guard with
   |none=>rfl
   |some g=>
    simp only[bM4];rw[ha.yielded a.tmps i _ g ho hg]
  simp only[bN0,wpOpsIn,h1]at h;simp only[wpOpsIn,ho];rw[hwant]at h
  by_cases hw:Region.wanted ops[i] (yielded ops a.tmps)=true
  ·rw[bK1 hw]at h⊢
   exact Oper.wpIn_mono (fun a' w' hh=>J0 ha l hl' hh) (be1 h2 h3 h4 h)
  ·rw[bJ9 hw]at h⊢
   refine⟨?_,?_⟩
   ·have:=h.1
    unfold Oper.about at this⊢
    grind
   ·have:=h.2
    rw[h3]at this;exact J0 ha l hl' this
theorem ac7 (ops:Array Oper)(x y:Nat)(g:Ground):br1 ops (c9 ops x y g) id:=by
 refine⟨fun i o ho=>?_,fun tmps i o g' _ _=>?_⟩
 ·show∃o',(c9 ops x y g)[i]? =some o'/\_
  rw[M2]
  by_cases hi:y=i
  ·simp_all
  ·simp_all
 ·show yielded (c9 ops x y g) tmps g'.1=yielded ops tmps g'.1
  unfold yielded;rw[M2]
  grind
def O1 (x n j:Nat):Nat:=if j<x then j else if j=x then n-1 else if j<n then j-1 else j
def piL (x n k:Nat):Nat:=if k<x then k else if k+1=n then x else k+1
theorem an2 {x n j:Nat}(hj:j<n):O1 x n j<n:=by unfold O1;split<;>(try split)<;>(try split)<;>omega
theorem bb9 {x n k:Nat}(hx:x<n)(hk:k<n):piL x n k<n:=by unfold piL;split<;>(try split)<;>omega
theorem W6 {x n j:Nat}(hj:j<n):piL x n (O1 x n j)=j:=by
 unfold piL O1
 grind
theorem aV3 {x n k:Nat}(hk:k<n):O1 x n (piL x n k)=k:=by
 unfold piL O1
 grind
theorem bD6 {x n j:Nat}(hx:x<n)(hj:n<=j):O1 x n j=j:=by
 unfold O1
 grind
def ar1 (x n:Nat)(o:Oper):Oper:= {o with after:=o.after.map (fun e=> {e with on:=O1 x n e.on}),guard:=o.guard.map (fun g=>(O1 x n g.1,g.2))}
def moveLast (ops:Array Oper)(x:Nat):Array Oper:=
 match ops[x]? with
 |some o0=>((List.range ops.size).map fun k=>ar1 x ops.size ((ops[piL x ops.size k]?).getD o0)).toArray
 |none=>ops
theorem au5 {ops:Array Oper}{x:Nat}(hx:x<ops.size):moveLast ops x=((List.range ops.size).map fun k=>ar1 x ops.size ((ops[piL x ops.size k]?).getD ops[x])).toArray:=by
 unfold moveLast
 grind
theorem U9 {ops:Array Oper}{x:Nat}(hx:x<ops.size):(moveLast ops x).size=ops.size:=by
 rw[au5 hx];simp
theorem P3 {ops:Array Oper}{x:Nat}(hx:x<ops.size){k:Nat}(hk:k<ops.size):(moveLast ops x)[k]? =(ops[piL x ops.size k]?).map (ar1 x ops.size):=by
 rw[au5 hx];have:=bb9 hx hk
 grind
theorem ay8 {ops:Array Oper}{x:Nat}(hx:x<ops.size):br1 ops (moveLast ops x) (O1 x ops.size):=by
 refine⟨fun i o ho=>?_,fun tmps i o g _ _=>?_⟩
 ·have hi:i<ops.size:=(bJ4.1 ho).1
  rw[P3 hx (an2 hi),W6 hi,ho];exact⟨_,rfl,rfl,rfl,rfl,rfl⟩
 ·unfold yielded
  by_cases hj:g.1<ops.size
  ·rw[P3 hx (an2 hj),W6 hj]
   cases ops[g.1]? <;>rfl
  ·rw[bD6 hx (by omega)]
   have e1:(moveLast ops x)[g.1]? =none:=Array.getElem?_eq_none (by rw[U9 hx];omega)
   grind
theorem M7.moveLast {ops:Array Oper}{l:List Nat}(h:M7 ops l){x:Nat}(hx:x<ops.size):M7 (moveLast ops x) (l.map (O1 x ops.size)):=by
 have hlt:∀i∈l,i<ops.size:=fun i hi=>(h.mem i).1 hi
 refine⟨?_,fun k=>?_,fun k1 k k2 he=>?_⟩
 ·unfold List.Nodup
  rw[List.pairwise_map];refine List.Pairwise.imp_of_mem (fun{a b} ha hb hab e=>hab ?_) h.nodup
  rw[<-W6 (hlt a ha),<-W6 (hlt b hb),e]
 ·rw[U9 hx,bQ2]
  constructor
  ·rintro ⟨j,hj,rfl⟩;exact an2 (hlt j hj)
  ·intro hk;exact⟨piL x ops.size k,(h.mem _).2 (bb9 hx hk),aV3 hk⟩
 ·obtain⟨l1,l3,e1,e2,e3⟩:=List.map_eq_append_iff.1 he
  obtain⟨i,l2,e4,e5,e6⟩:=List.map_eq_cons_iff.1 e3;obtain⟨o,ho,hd⟩:=h.behind l1 i l2 (by rw[e1,e4])
  have hi:i<ops.size:=(bJ4.1 ho).1;subst e5;rw[P3 hx (an2 hi),W6 hi,ho];refine⟨_,rfl,fun e hee hb=>?_⟩
  simp only[ar1]at hee;obtain⟨e0,h0,rfl⟩:=Array.mem_map.1 hee;have:=hd e0 h0 hb
  grind
def aN3 :List (Value×Value)->List (Value×Value)->Bool
 | [],[]=>true
 |x::xs,y::ys=>veq 100 x.1 y.1&&veq 100 x.2 y.2&&aN3 xs ys
 |_,_=>false
theorem aJ6 :∀ {xs ys:List (Value×Value)},aN3 xs ys=true->xs=ys
 | [],[],_=>rfl
 |x::xs,y::ys,h=>by
  simp only[aN3,bI0]at h;rw[aJ6 h.2,Prod.ext (as2 100 _ _ h.1.1) (as2 100 _ _ h.1.2)]
 | [],_::_,h=>by cases h
 |_::_,[],h=>by cases h
def au0 (b c:Blk):Bool:=
 match b,c with
 | .cells c n e z,.cells c' n' e' z'=>Nat.beq n n'&&Nat.beq e e'&&Nat.beq z z'&&(match n9 c 0 n,n9 c' 0 n with|some v,some v'=>U6 (veq 100) v v'|_,_=>false)
 | .map es r,.map es' r'=>(r==r')&&aN3 es es'
 | .dfr,.dfr=>true
 |_,_=>false
theorem bs3 {σ:Sg}{p:Pl}{b c:Blk}{o:Obj}(h:au0 b c=true)(hc:BR σ p c o):BR σ p b o:=by
 unfold au0 at h;split at h
 ·rename_i c1 n e z c2 n' e' z'
  simp only[bI0]at h;obtain⟨⟨⟨h1,h2⟩,h3⟩,h4⟩:=h;have h1:=bI4 h1;have h2:=bI4 h2;have h3:=bI4 h3;subst h1 h2 h3;split at h4
  ·rename_i v v' hv hv'
   have:=Y0 (as2 100) h4;subst this;obtain⟨C,k1,k2,k3,k4,k5⟩:=hc;refine⟨C,k1,k2,k3,k4,fun j hj=>?_⟩
   obtain⟨x,u,q1,q2,q3⟩:=k5 j hj;have g1:=(j9 hv).2 j hj;have g2:=(j9 hv').2 j hj
   grind
  ·cases h4
 ·simp only[bI0,beq_iff_eq]at h
  obtain⟨rfl,h⟩:=h;rw[aJ6 h];exact hc
 ·exact hc
 ·cases h
theorem aR2 {b c:Blk}(h:au0 b c=true):S7 b=false/\S7 c=false:=by
 unfold au0 at h;split at h<;>first|exact⟨rfl,rfl⟩|cases h
def ba7 (m1 m2:T Blk):Nat->Nat->T Blk->T Blk
 |_,0,acc=>acc
 |i,n+1,acc=>match m1.get i,m2.get i with
  |some b,some c=>bif au0 b c then(acc.set i (some b)).force fun acc'=>ba7 m1 m2 (i+1) n acc' else ba7 m1 m2 (i+1) n acc
  |_,_=>ba7 m1 m2 (i+1) n acc
theorem aT3 {m1 m2:T Blk}:∀(n i:Nat) (acc:T Blk) (j:Nat) (b:Blk),(ba7 m1 m2 i n acc).get j=some b->acc.get j=some b\/(m1.get j=some b/\ ∃c,m2.get j=some c/\au0 b c=true):=by
 intro n
 induction n with
 |zero=>intro i acc j b h;exact .inl h
 |succ n ih=>
  intro i acc j b h;simp only[ba7]at h;split at h
  ·rename_i b1 c1 h1 h2
   cases hb:au0 b1 c1 with
   |false=>grind
   |true=>
    rw[hb,bJ6,T.force_eq]at h
    rcases ih _ _ _ _ h with h3|h3
    ·rw[T.get_set]at h3
     grind
    ·grind
  ·grind
def aT2 (t1 t2 : T Value) : Nat → Nat → Option (List Value)
 |_,0=>some []
 | k, n + 1 => bif veq 100 ((t1.get k).getD undef) ((t2.get k).getD undef) then
   match aT2 t1 t2 (k+1) n with
   |some vs=>some ((t1.get k).getD undef::vs)
   |none=>none
  else none
theorem bm0 {t1 t2:T Value}:∀ {n k:Nat} {vs:List Value},aT2 t1 t2 k n=some vs->vs.length=n/\ ∀j,j<n->vs[j]? =some ((t1.get (k+j)).getD undef)/\(t1.get (k+j)).getD undef=(t2.get (k+j)).getD undef:=by
 intro n
 induction n with
 |zero=>intro k vs h;simp only[aT2,bH9]at h;subst h;exact⟨rfl,fun j hj=>absurd hj (Nat.not_lt_zero j)⟩
 |succ n ih=>
  intro k vs h;simp only[aT2]at h;cases hb:veq 100 ((t1.get k).getD undef) ((t2.get k).getD undef)with
  |false=>grind
  |true=>
   rw[hb,bJ6]at h;split at h
   ·rename_i vs' hv
    cases h;obtain⟨h1,h2⟩:=ih hv;refine⟨by simp[h1],fun j hj=>?_⟩
    cases j with
    |zero=>exact⟨rfl,as2 100 _ _ hb⟩
    |succ j=>grind
   ·cases h
def ax7 (nt:Nat)(a b:T Value×Hp):Option (T Value×Hp):=
 bif Nat.beq a.2.nx b.2.nx then match aT2 a.1 b.1 0 nt with
  |some vs=>some (fill .e 0 vs,⟨ba7 a.2.m b.2.m 0 a.2.nx .e,a.2.nx⟩)
  |none=>none
 else none
section
variable {P :Program}{B:BS}{w0:World}
theorem am6 {nt n : Nat} {a b : T Value × Hp} {tm : T Value} {hp : Hp} (h : ax7 nt a b = some (tm, hp)) {σ : Sg} {e : Exit} {D : List Deferred} {e' : Exit} {c : Act} {w : World} :
  (ab7 n B w0 σ nt e a.1 a.2 D e' c w->ab7 n B w0 σ nt e tm hp D e' c w)/\(ab7 n B w0 σ nt e b.1 b.2 D e' c w->ab7 n B w0 σ nt e tm hp D e' c w):=by
 unfold ax7 at h;cases hn:Nat.beq a.2.nx b.2.nx with
 |false=>grind
 |true=>
  rw[hn,bJ6]at h;have hn:=bI4 hn;split at h
  ·rename_i vs hvs
   cases h;obtain⟨v1,v2⟩:=bm0 hvs;have tr:∀ {σ':Sg} {t:T Value} {tmps:Array Value},(∀j,j<nt->vs[j]? =some ((t.get j).getD undef))->TR σ' nt t tmps->TR σ' nt (fill .e 0 vs) tmps:=by
    intro σ' t tmps ht h;refine⟨h.size,fun k=>?_⟩
    rw[l6]
    by_cases hk:k<nt
    ·rw[bK1 (by omega),bQ1,ht k hk]
     exact h.at_ k
    ·rw[bJ9 (by omega),T.get_e]
     have:tmps.getD k undef=undef:=by simp[Array.getD,h.size,hk]
     rw[this];exact VR.undef σ'
   constructor
   ·rintro ⟨h1,h2,σ',h3,h4,h5⟩
    refine⟨h1,h2,σ',h3,tr (fun j hj=>by have:=(v2 j hj).1;rw[bL1]at this;exact this) h4,h5.less fun i b hg=>?_⟩
    rcases aT3 _ _ _ _ _ hg with h| ⟨h,_⟩
    ·rw[T.get_e]at h;cases h
    ·exact h
   ·rintro ⟨h1,h2,σ',h3,h4,h5⟩
    refine⟨h1,h2,σ',by show Sg.gr n a.2.nx σ σ';rw[hn];exact h3,tr (fun j hj=>by have:=v2 j hj;rw[bL1]at this;rw[<-this.2];exact this.1) h4,?_⟩
    have sub:∀i x,(ba7 a.2.m b.2.m 0 a.2.nx .e).get i=some x-> ∃y,b.2.m.get i=some y/\au0 x y=true:=by
     intro i x hg
     rcases aT3 _ _ _ _ _ hg with h| ⟨_,h⟩
     ·rw[T.get_e]at h;cases h
     ·exact h
    refine⟨h5.os,h5.tape,h5.output,h5.size,h5.old,h5.kept,fun i hi=>h5.fresh i (by rw[<-hn];exact hi),fun i x hg=>?_,fun i j x y p q hi hj hne hp hq=>?_⟩
    ·obtain⟨y,hy,hb⟩:=sub i x hg
     obtain⟨p,o,k1,k2,k3,k4⟩:=h5.live i y hy;exact⟨p,o,k1,k2.like (aR2 hb).2 (aR2 hb).1,k3,bs3 hb k4⟩
    ·obtain⟨x',hx',_⟩:=sub i x hi
     obtain⟨y',hy',_⟩:=sub j y hj;exact h5.inj i j x' y' p q hx' hy' hne hp hq
  ·cases h
end
def az1 :Nat->List Oper->Bool
 |_,[]=>true
 |i,o::os=>o.after.toList.all (fun e=> !(Region.binds .any e)||Nat.blt e.on i)&&az1 (i+1) os
theorem aH3 :∀ {os:List Oper} {i:Nat},az1 i os=true-> ∀(j:Nat) o,os[j]? =some o-> ∀e∈o.after,Region.binds .any e=true->e.on<i+j
 | [],_,_,j,o,h=>by simp at h
 |x::os,i,h,j,o,ho=>by
  simp only[az1,bI0,bK9]at h;cases j with
  |zero=>
   simp at ho;subst ho;intro e he hb;have:=h.1 e (by simpa using he)
   simp_all
  |succ j=>
   intro e he hb;have:=aH3 h.2 j o (by simpa using ho) e he hb
   omega
def aq5 (all:List Oper):Option (Nat×Nat):=
 (ba2 all (C0 all [])).findSome? fun x=>(ba2 all (C0 all [])).findSome? fun y=>bif s2 x y then none else some (y.i,x.i)
def bk9 (p:Oper×Nat):Op×Option Tmp×Nat:=(p.1.op,p.1.dst,p.2)
def ab2 (e:Ent):Nat×Option Nw:=(e.i,e.nw)
def aj0 :List (Oper×Nat)->Nat
 | []=>0
 |p::l=>(bif Nat.beq (d6 p.1.op) 3 then p.2 else 0)|||aj0 l
theorem Z7 {nx0:Nat}{m:Nat->Bool}:∀ {es1 es2:List Ent} {S:Hp},es1.map ab2=es2.map ab2->takes nx0 m es1 S=takes nx0 m es2 S
 | [],[],_,_=>rfl
 | [],_::_,_,h=>by simp at h
 |_::_,[],_,h=>by simp at h
 |e::es1,f::es2,S,h=>by
  simp only[bN0,bO8,ab2,bI1]at h;unfold takes;rw[h.1.2,h.1.1];cases f.nw with
  |none=>exact Z7 h.2
  |some n=>
   cases m f.i with
   |true=>exact Z7 h.2
   |false=>exact Z7 h.2
theorem aD4 {nx0:Nat}{m:Nat->Bool}:∀ {es:List Ent} {S:Hp},(∀e∈es,e.nw≠none->m e.i=false)->takes nx0 m es S=S
 | [],_,_=>rfl
 |e::es,S,h=>by
  unfold takes;have ih:=aD4 (nx0:=nx0) (m:=m) (es:=es) (S:=S) fun f hf=>h f (bN8 _ hf)
  cases hn:e.nw with
  |none=>exact ih
  |some n=>
   rw[h e (by simp) (by rw[hn];simp)]
   exact ih
section
variable {P :Program}{call:d8}{nt nx0:Nat}
variable (P call nt nx0) in
def xg1 (op:Op)(dst:Option Tmp)(pre i:Nat)(tm:T Value)(S:Hp)(I:Nat)(es:List Ent):Option (Value×Hp×Nat×Option Nw):=
 bif A4 nt dst then match d6 op with
  |0=>(xop P call tm S op).map fun r=>(r.1,S,I,none)
  |1=>(xrd P tm S op).map fun v=>(v,S,I,none)
  |2=>(xnw P tm op).map fun n=>(n.val (nx0+i),S,I,some n)
  |_=>(xop P call tm (takes nx0 (aj5 pre I) es S) op).map fun r=>(r.1,r.2,I|||pre,none)
 else none
theorem af0 {all : List Oper} {o : Oper} {pre : Nat} {rest : List (Oper × Nat)} {i : Nat} {tm : T Value} {S : Hp} {I : Nat} {es : List Ent} (hg : o.guard = none) :
  xgo P call nt all nx0 ((o,pre)::rest) i tm S I es=(xg1 P call nt nx0 o.op o.dst pre i tm S I es).bind fun r=>xgo P call nt all nx0 rest (i+1) (y8 tm o.dst r.1) r.2.1 r.2.2.1 (⟨i,o,pre,tm,S,r.2.1,I,true,r.1,r.2.2.2⟩::es):=by
 have hw:n8 all tm o=true:=by unfold n8;rw[hg]
 conv=>lhs;unfold xgo
 unfold xg1;rw[hw];cases A4 nt o.dst with
 |false=>rfl
 |true=>
  simp only[bJ6];generalize d6 o.op=k
  match k with
  |0=>simp only;cases xop P call tm S o.op<;>rfl
  |1=>simp only;cases xrd P tm S o.op<;>rfl
  |2=>simp only;cases xnw P tm o.op<;>rfl
  |k+3=>simp only;cases xop P call tm (takes nx0 (aj5 pre I) es S) o.op<;>rfl
theorem bA6 {op:Op}{dst:Option Tmp}{pre i:Nat}{tm:T Value}{S:Hp}{I:Nat}{es es':List Ent}(h:es.map ab2=es'.map ab2):xg1 P call nt nx0 op dst pre i tm S I es=xg1 P call nt nx0 op dst pre i tm S I es':=by
 unfold xg1;rw[Z7 h]
theorem xg1_I {op : Op} {dst : Option Tmp} {pre i : Nat} {tm : T Value} {S : Hp} {I : Nat} {es : List Ent} {r : Value × Hp × Nat × Option Nw} (h : xg1 P call nt nx0 op dst pre i tm S I es = some r) :
  r.2.2.1=I||| (bif Nat.beq (d6 op) 3 then pre else 0)/\(r.2.2.2≠none->d6 op=2):=by
 unfold xg1 at h;cases hd:A4 nt dst with
 |false=>rw[hd]at h;cases h
 |true=>
  rw[hd,bJ6]at h;have hk:=an0 op;generalize d6 op=k at h hk⊢
  match k with
  |0=>simp only[bQ3]at h;obtain⟨_,_,rfl⟩:=h;simp[show Nat.beq 0 3=false from rfl]
  |1=>simp only[bQ3]at h;obtain⟨_,_,rfl⟩:=h;simp[show Nat.beq 1 3=false from rfl]
  |2=>simp only[bQ3]at h;obtain⟨_,_,rfl⟩:=h;simp[show Nat.beq 2 3=false from rfl]
  |3=>simp only[bQ3]at h;obtain⟨_,_,rfl⟩:=h;simp[show Nat.beq 3 3=true from rfl]
  |k+4=>omega
theorem bA9 {all1 all2 : List Oper} {R1 R2 : List (Oper × Nat)} {out1 out2 : Out} {T0 : Nat} : ∀ (l1 l2 : List (Oper × Nat)) (i : Nat) (tm : T Value) (S : Hp) (I : Nat) (es1 es2 : List Ent), l1.map bk9 = l2.map bk9 → es1.map ab2 = es2.map ab2 →
  (∀p∈l1,p.1.guard=none)->(∀p∈l2,p.1.guard=none)->I|||aj0 l1=T0->(∀e∈es1,e.nw≠none->T0.testBit e.i=true)->(∀(k:Nat) p,l1[k]? =some p->d6 p.1.op=2->T0.testBit (i+k)=true)->
  xgo P call nt all1 nx0 (l1++R1) i tm S I es1=some out1->xgo P call nt all2 nx0 (l2++R2) i tm S I es2=some out2->
  ∃tm' S' es1' es2',es1'.map ab2=es2'.map ab2/\(∀e∈es1',e.nw≠none->T0.testBit e.i=true)/\
   xgo P call nt all1 nx0 R1 (i+l1.length) tm' S' T0 es1'=some out1/\xgo P call nt all2 nx0 R2 (i+l1.length) tm' S' T0 es2'=some out2
 | [],[],i,tm,S,I,es1,es2,_,he,_,_,hT,hc,_,h1,h2=>by
  have hT:I=T0:=by rw[<-hT];simp[aj0]
  subst hT;exact⟨tm,S,es1,es2,he,hc,h1,h2⟩
 | [],_::_,_,_,_,_,_,_,h,_,_,_,_,_,_,_,_=>by simp at h
 |_::_,[],_,_,_,_,_,_,h,_,_,_,_,_,_,_,_=>by simp at h
 | (o1,p1)::l1,(o2,p2)::l2,i,tm,S,I,es1,es2,hl,he,g1,g2,hT,hc,hk,h1,h2=>by
  simp only[bN0,bO8,bk9,bI1]at hl;obtain⟨⟨e1,e2,rfl⟩,hl⟩:=hl;rw[bO1,af0 (show o1.guard=none from g1 _ List.mem_cons_self)]at h1;rw[bO1,af0 (show o2.guard=none from g2 _ List.mem_cons_self),<-e1,<-e2,<-bA6 he]at h2;cases hx:xg1 P call nt nx0 o1.op o1.dst p1 i tm S I es1 with
  |none=>rw[hx]at h1;cases h1
  |some r=>
   rw[hx]at h1 h2;simp only[Option.bind_some]at h1 h2;obtain⟨i1,i2⟩:=xg1_I hx;have hT':r.2.2.1|||aj0 l1=T0:=by rw[i1,<-hT,aj0,Nat.or_assoc]
   obtain⟨tm',S',es1',es2',a1,a2,a3,a4⟩:=bA9 l1 l2 (i+1) _ _ _ _ _ hl (by simp only[bN0,he];rfl) (fun p hp=>g1 p (bN8 _ hp)) (fun p hp=>g2 p (bN8 _ hp)) hT'
    (fun e he' hn=>by
     rcases bL7.1 he' with rfl|he'
     ·exact hk 0 _ rfl (i2 hn)
     ·exact hc e he' hn) (fun k p hp h=>by have:=hk (k+1) p (by simpa using hp) h;rwa[show i+1+k=i+(k+1) by omega]) h1 h2
   exact⟨tm',S',es1',es2',a1,a2,by rw[bM2,show i+(l1.length+1)=i+1+l1.length by omega];exact a3,by rw[bM2,show i+(l1.length+1)=i+1+l1.length by omega];exact a4⟩
theorem bA8 {all1 all2 : List Oper} {R1 R2 : List (Oper × Nat)} {out1 out2 : Out} {S1 S2 : Hp} {I1 I2 : Nat} : ∀ (l1 l2 : List (Oper × Nat)) (i j : Nat) (tm : T Value) (es1 es2 : List Ent), (l1.map fun p => (p.1.op, p.1.dst)) = (l2.map fun p => (p.1.op, p.1.dst)) →
  (∀p∈l1,p.1.guard=none)->(∀p∈l2,p.1.guard=none)->(∀p∈l1,d6 p.1.op=0)->
  xgo P call nt all1 nx0 (l1++R1) i tm S1 I1 es1=some out1->xgo P call nt all2 nx0 (l2++R2) j tm S2 I2 es2=some out2->
  ∃tm' es1' es2',(∀e∈es1',e.nw≠none->e∈es1)/\(∀e∈es2',e.nw≠none->e∈es2)/\(∀t,(∀p∈l1,p.1.dst≠some t)->tm'.get t=tm.get t)/\
   xgo P call nt all1 nx0 R1 (i+l1.length) tm' S1 I1 es1'=some out1/\xgo P call nt all2 nx0 R2 (j+l1.length) tm' S2 I2 es2'=some out2
 | [],[],i,j,tm,es1,es2,_,_,_,_,h1,h2=>⟨tm,es1,es2,fun e h _=>h,fun e h _=>h,fun _ _=>rfl,h1,h2⟩
 | [],_::_,_,_,_,_,_,h,_,_,_,_,_=>by simp at h
 |_::_,[],_,_,_,_,_,h,_,_,_,_,_=>by simp at h
 | (o1,p1)::l1,(o2,p2)::l2,i,j,tm,es1,es2,hl,g1,g2,hk,h1,h2=>by
  simp only[bN0,bO8,bI1]at hl;obtain⟨⟨e1,e2⟩,hl⟩:=hl;have hk0:d6 o1.op=0:=hk _ List.mem_cons_self;rw[bO1,af0 (show o1.guard=none from g1 _ List.mem_cons_self)]at h1;rw[bO1,af0 (show o2.guard=none from g2 _ List.mem_cons_self),<-e1,<-e2]at h2;obtain⟨r,hr⟩:=aF3 (P:=P) (call:=call) (tm:=tm) hk0;have st:∀pre i S I es,xg1 P call nt nx0 o1.op o1.dst pre i tm S I es=bif A4 nt o1.dst then r.map fun v=>(v,S,I,none)else none:=by
   intro pre i S I es;unfold xg1;rw[hk0,hr];cases r<;>rfl
  rw[st]at h1 h2;cases hd:A4 nt o1.dst with
  |false=>rw[hd]at h1;cases h1
  |true=>
   rw[hd,bJ6]at h1 h2;cases r with
   |none=>cases h1
   |some v=>
    simp only[bM4,Option.bind_some]at h1 h2;obtain⟨tm',es1',es2',a1,a2,a3,a4,a5⟩:=bA8 l1 l2 (i+1) (j+1) _ _ _ hl (fun p hp=>g1 p (bN8 _ hp)) (fun p hp=>g2 p (bN8 _ hp)) (fun p hp=>hk p (bN8 _ hp)) h1 h2
    refine⟨tm',es1',es2',fun e he hn=>?_,fun e he hn=>?_,fun t ht=>?_,by rw[bM2,show i+(l1.length+1)=i+1+l1.length by omega];exact a4,by rw[bM2,show j+(l1.length+1)=j+1+l1.length by omega];exact a5⟩
    ·rcases bL7.1 (a1 e he hn)with rfl|h
     ·exact absurd rfl hn
     ·exact h
    ·rcases bL7.1 (a2 e he hn)with rfl|h
     ·exact absurd rfl hn
     ·exact h
    ·rw[a3 t fun p hp=>ht p (bN8 _ hp)]
     have h0:=ht _ List.mem_cons_self;unfold y8;cases hd2:o1.dst with
     |none=>rfl
     |some d=>simp only;rw[T.get_set,bJ9 (fun e=>h0 (by rw[hd2,e]))]
theorem aL4 {t : TypeId} {i o : Nat} {x : Value} {hp hp' : Hp} (h : J7 P hp t (.pointer (some ⟨i, o, none⟩)) x = some hp') :
  ∃b,(∀k,hp'.m.get k=if k=i then some b else hp.m.get k)/\hp'.nx=hp.nx/\ ∀hq:Hp,hq.m.get i=hp.m.get i-> ∀hq',J7 P hq t (.pointer (some ⟨i,o,none⟩)) x=some hq'->(∀k,hq'.m.get k=if k=i then some b else hq.m.get k)/\hq'.nx=hq.nx:=by
 unfold J7 at h;simp only at h;split at h
 ·rename_i c n e z hg
  split at h
  ·rename_i ti hti
   cases hb:Nat.beq x.cells.toList.length ti.size&&Nat.ble (o+ti.size) n&&x.cells.toList.all Value.oneCell' with
   |false=>rw[hb]at h;cases h
   |true=>
    rw[hb,bJ6,bH9]at h;refine⟨.cells (fill c o x.cells.toList) n e z,fun k=>?_,by rw[<-h,H8],fun hq hgq hq' hx=>?_⟩
    ·rw[<-h,H8];exact T.get_set _ _ _ _
    ·unfold J7 at hx
     simp only[hgq,hg,hti]at hx;rw[hb,bJ6,bH9]at hx;refine⟨fun k=>?_,by rw[<-hx,H8]⟩
     rw[<-hx,H8];exact T.get_set _ _ _ _
  ·cases h
 ·cases h
theorem bA7 {all1 all2 : List Oper} {A1 A2 B1 B2 : List (Oper × Nat)} {X1 X2 Y1 Y2 : Oper × Nat} {tm : T Value} {S : Hp} {out1 out2 : Out} {t t' : TypeId} {a v a' v' : Operand} {i j o o' : Nat}
  (g1:∀p∈A1++X1::(B1++ [Y1]),p.1.guard=none) (g2:∀p∈A2++(B2++ [Y2,X2]),p.1.guard=none)
  (hA:A1.map bk9=A2.map bk9) (hB:(B1.map fun p=>(p.1.op,p.1.dst))=(B2.map fun p=>(p.1.op,p.1.dst))) (hB0:∀p∈B1,d6 p.1.op=0)
  (hc:∀(k:Nat) p,A1[k]? =some p->d6 p.1.op=2->(aj0 A1).testBit k=true)
  (hX1:X1.1.op= .store t a v) (hX2:X2.1.op= .store t a v) (hY1:Y1.1.op= .store t' a' v') (hY2:Y2.1.op= .store t' a' v') (dX1:X1.1.dst=none) (dX2:X2.1.dst=none) (dY1:Y1.1.dst=none) (dY2:Y2.1.dst=none)
  (ha:∀k,a= .tmp k-> ∀p∈B1,p.1.dst≠some k) (hv:∀k,v= .tmp k-> ∀p∈B1,p.1.dst≠some k)
  (h1:xgo P call nt all1 nx0 (A1++X1::(B1++ [Y1])) 0 tm S 0 []=some out1) (h2:xgo P call nt all2 nx0 (A2++(B2++ [Y2,X2])) 0 tm S 0 []=some out2)
  (p1:a9 out1.tm a=some (.pointer (some ⟨i,o,none⟩))) (p2:a9 out1.tm a'=some (.pointer (some ⟨j,o',none⟩))) (hij:i≠j):
  out2.tm=out1.tm/\(takes nx0 (ah3 out2.I) out2.es out2.S).nx=(takes nx0 (ah3 out1.I) out1.es out1.S).nx/\ ∀k,(takes nx0 (ah3 out2.I) out2.es out2.S).m.get k=(takes nx0 (ah3 out1.I) out1.es out1.S).m.get k:=by
 obtain⟨tm1,S1,es1,es2,a1,a2,a3,a4⟩:=bA9 A1 A2 0 tm S 0 [] [] hA rfl (fun p hp=>g1 p (by simp[hp])) (fun p hp=>g2 p (by simp[hp])) (Nat.zero_or _) (fun e he=>by simp at he) (fun k p hp h=>by rw[bL1];exact hc k p hp h) h1 h2
 have tk1:∀ {es:List Ent},(∀e∈es,e.nw≠none->e∈es1)-> ∀ {m:Nat->Bool} {S:Hp},(∀n,(aj0 A1).testBit n=true->m n=false)->takes nx0 m es S=S:=by
  intro es he m S hm;exact aD4 fun e h hn=>hm _ (a2 e (he e h hn) hn)
 have a2':∀e∈es2,e.nw≠none->(aj0 A1).testBit e.i=true:=by
  intro e he hn;have hm:ab2 e∈es1.map ab2:=by rw[a1];exact List.mem_map_of_mem he
  obtain⟨f,hf,hfe⟩:=bQ2.1 hm;simp only[ab2,bI1]at hfe;rw[<-hfe.1];exact a2 f hf (by rw[hfe.2];exact hn)
 have tk2:∀ {es:List Ent},(∀e∈es,e.nw≠none->e∈es2)-> ∀ {m:Nat->Bool} {S:Hp},(∀n,(aj0 A1).testBit n=true->m n=false)->takes nx0 m es S=S:=by
  intro es he m S hm;exact aD4 fun e h hn=>hm _ (a2' e (he e h hn) hn)
 have sel:∀ {pre I:Nat},(∀n,(aj0 A1).testBit n=true->I.testBit n=true)-> ∀n,(aj0 A1).testBit n=true->aj5 pre I n=false:=fun h n hn=>by unfold aj5;rw[h n hn];simp
 have stp : ∀ {all : List Oper} {X : Oper × Nat} {R : List (Oper × Nat)} {n : Nat} {tm : T Value} {S : Hp} {I : Nat} {es : List Ent} {t : TypeId} {a v : Operand} {out : Out}, X.1.guard = none → X.1.op = .store t a v → X.1.dst = none → (∀ pre, takes nx0 (aj5 pre I) es S = S) →
   xgo P call nt all nx0 (X::R) n tm S I es=some out-> ∃pv xv S',a9 tm a=some pv/\a9 tm v=some xv/\J7 P S t pv xv=some S'/\ ∃e,e.nw=none/\xgo P call nt all nx0 R (n+1) tm S' (I|||X.2) (e::es)=some out:=by
  intro all X R n tm S I es t a v out hg ho hd ht hx;obtain⟨X,pre⟩:=X;rw[af0 hg,show X.dst=none from hd,show X.op=_ from ho]at hx;unfold xg1 at hx;rw[show d6 (.store t a v)=3 from rfl,ht,show A4 nt none=true from rfl,bJ6]at hx;simp only[c6,k9]at hx;cases hp:a9 tm a with
  |none=>rw[hp]at hx;cases hx
  |some pv=>
   cases hu:a9 tm v with
   |none=>rw[hp,hu]at hx;cases hx
   |some xv=>
    rw[hp,hu]at hx;simp only at hx;cases hs:J7 P S t pv xv with
    |none=>rw[hs]at hx;cases hx
    |some S'=>
     rw[hs]at hx;exact⟨pv,xv,S',rfl,rfl,hs,_,rfl,hx⟩
 have gX1:=g1 X1 (by simp)
 have gY1:=g1 Y1 (by simp)
 have gX2:=g2 X2 (by simp)
 have gY2:=g2 Y2 (by simp)
 obtain⟨pv,xv,S2,b1,b2,b3,e1,n1,b4⟩:=stp gX1 hX1 dX1 (fun pre=>tk1 (fun e h _=>h) (sel fun n h=>h)) a3
 obtain⟨tm2,es3,es4,c1,c2,c3,c4,c5⟩:=bA8 B1 B2 _ _ tm1 _ _ hB (fun p hp=>g1 p (by simp[hp])) (fun p hp=>g2 p (by simp[hp])) hB0 b4 a4
 have c1':∀e∈es3,e.nw≠none->e∈es1:=fun e he hn=>by
  rcases bL7.1 (c1 e he hn)with rfl|h
  ·exact absurd n1 hn
  ·exact h
 obtain⟨pw,yv,S3,d1,d2,d3,e2,n2,d4⟩:=stp gY1 hY1 dY1 (fun pre=>tk1 c1' (sel fun n h=>by rw[Nat.testBit_or,h];rfl)) c4
 simp only[xgo,bH9]at d4;subst d4;obtain⟨pw',yv',S4,f1,f2,f3,e3,n3,f4⟩:=stp gY2 hY2 dY2 (fun pre=>tk2 c2 (sel fun n h=>h)) c5
 have c2':∀e∈e3::es4,e.nw≠none->e∈es2:=fun e he hn=>by
  rcases bL7.1 he with rfl|h
  ·exact absurd n3 hn
  ·exact c2 e h hn
 obtain⟨pv',xv',S5,k1,k2,k3,e4,n4,k4⟩:=stp gX2 hX2 dX2 (fun pre=>tk2 c2' (sel fun n h=>by rw[Nat.testBit_or,h];rfl)) f4
 simp only[xgo,bH9]at k4;subst k4;have ev:∀ {x:Operand},(∀k,x= .tmp k-> ∀p∈B1,p.1.dst≠some k)->a9 tm2 x=a9 tm1 x:=by
  intro x hx;cases x with
  |tmp k=>simp only[a9];rw[c3 k (hx k rfl)]
  |_=>rfl
 rw[ev ha]at k1 p1;rw[ev hv]at k2;rw[b1]at k1 p1;cases k1;cases p1;rw[b2]at k2;cases k2;rw[d1]at f1 p2;cases f1;cases p2;rw[d2]at f2;cases f2;obtain⟨bx,x1,x2,x3⟩:=aL4 b3;obtain⟨by_,y1,y2,y3⟩:=aL4 d3;obtain⟨z1,z2⟩:=y3 S1 (by rw[x1,bJ9 (Ne.symm hij)]) _ f3
 obtain⟨w1,w2⟩:=x3 S4 (by rw[z1,bJ9 hij]) _ k3
 have fin1:∀(I:Nat),(∀n,(aj0 A1).testBit n=true->I.testBit n=true)-> ∀n,(aj0 A1).testBit n=true->ah3 I n=false:=fun I h n hn=>by unfold ah3;rw[h n hn];rfl
 rw [tk1 (es := e2 :: es3) (fun e he hn => by
   rcases bL7.1 he with rfl|h
   ·exact absurd n2 hn
   ·exact c1' e h hn) (fin1 _ fun n h=>by simp only[Nat.testBit_or,h,Bool.true_or]),
  tk2 (es:=e4::e3::es4) (fun e he hn=>by
   rcases bL7.1 he with rfl|h
   ·exact absurd n4 hn
   ·exact c2' e h hn) (fin1 _ fun n h=>by simp only[Nat.testBit_or,h,Bool.true_or])]
 refine⟨rfl,by rw[w2,z2,y2,x2],fun k=>?_⟩
 rw[w1,z1,y1,x1]
 by_cases hi:k=i
 ·rw[bK1 hi,bJ9 (fun e=>hij (hi.symm.trans e)),bK1 hi]
 ·rw[bJ9 hi,bJ9 hi]
end
theorem bz2 {α:Type}{l:List α}{x y:Nat}(h:x<y)(hl:l.length=y+1):l=l.take x++l[x]::((l.drop (x+1)).take (y-x-1)++ [l[y]]):=by
 have e1:(l.drop (x+1)).take (y-x-1)++ [l[y]]=l.drop (x+1):=by
  have: [l[y]]=(l.drop (x+1)).drop (y-x-1):=by
   rw[List.drop_drop,show x+1+(y-x-1)=y by omega,List.drop_eq_getElem_cons (by omega),List.drop_eq_nil_of_le (by omega)]
  rw[this,bR3]
 rw[e1,<-List.drop_eq_getElem_cons (by omega),bR3]
theorem bz3 {α:Type}{l:List α}{x y:Nat}(h:x<y)(hl:l.length=y+1):l=l.take x++((l.drop x).take (y-x-1)++ [l[y-1],l[y]]):=by
 have e1:(l.drop x).take (y-x-1)++ [l[y-1],l[y]]=l.drop x:=by
  have: [l[y-1],l[y]]=(l.drop x).drop (y-x-1):=by
   rw[List.drop_drop,show x+(y-x-1)=y-1 by omega,List.drop_eq_getElem_cons (by omega)]
   have:l.drop (y-1+1)=[l[y]]:=by
    rw[show y-1+1=y by omega,List.drop_eq_getElem_cons (by omega),List.drop_eq_nil_of_le (by omega)]
   rw[this]
  rw[this,bR3]
 rw[e1,bR3]
def bv9 :List Nat->List Nat->Bool
 | [],[]=>true
 |a::l,b::m=>Nat.beq a b&&bv9 l m
 |_,_=>false
theorem bh6 :∀ {l m:List Nat},bv9 l m=true->l=m
 | [],[],_=>rfl
 | [],_::_,h=>by cases h
 |_::_,[],h=>by cases h
 |a::l,b::m,h=>by
  simp only[bv9,bI0,bL9]at h;rw[h.1,bh6 h.2]
def aO8 :Op->Option (Operand×Operand)
 | .store _ a v=>some (a,v)
 |_=>none
theorem aK6 {o:Op}{a v:Operand}(h:aO8 o=some (a,v)):∃t,o= .store t a v:=by
 unfold aO8 at h;split at h
 ·cases h;exact⟨_,rfl⟩
 ·cases h
def aq9 (B:List Oper):Operand->Bool
 | .tmp t=>B.all fun o=> !(bg4 o t)
 |_=>true
theorem aJ4 {B:List Oper}{a:Operand}(h:aq9 B a=true)(k:Nat)(ha:a= .tmp k)(o:Oper)(ho:o∈B):o.dst≠some k:=by
 subst ha;unfold aq9 at h;have:=bK9.1 h o ho;unfold bg4 at this;intro e;rw[e]at this;simp at this
def bl0 (u v:Option Value):Bool:=match u,v with
 |some (.pointer (some ⟨i,_,none⟩)),some (.pointer (some ⟨j,_,none⟩))=> !(Nat.beq i j)
 |_,_=>false
theorem bB8 {u v:Option Value}(h:bl0 u v=true):∃i o j o',u=some (.pointer (some ⟨i,o,none⟩))/\v=some (.pointer (some ⟨j,o',none⟩))/\i≠j:=by
 unfold bl0 at h;split at h
 ·rename_i i o j o'
  exact⟨i,o,j,o',rfl,rfl,fun e=>by rw[e]at h;simp at h⟩
 ·cases h
def ar0 (all1 all2 : List Oper) (x y : Nat) : Option (Operand × Operand) :=
 bif Nat.beq all1.length (y + 1) && Nat.blt x y && (all1.all fun o => o.guard.isNone) && Nat.beq (C0 all1 []).length (y + 1) && Nat.beq (C0 all2 []).length (y + 1) && bv9 ((C0 all1 []).take x) ((C0 all2 []).take x) &&
   (((all1.drop (x+1)).take (y-x-1)).all fun o=>Nat.beq (d6 o.op) 0)&&((all1.take x).zipIdx.all fun p=> !(Nat.beq (d6 p.1.op) 2)|| (aj0 ((all1.zip (C0 all1 [])).take x)).testBit p.2)then
  match all1[x]?,all1[y]? with
  |some ox,some oy=>match aO8 ox.op,aO8 oy.op with
   |some (a,v),some (a',_)=>bif ox.dst.isNone&&oy.dst.isNone&&aq9 ((all1.drop (x+1)).take (y-x-1)) a&&aq9 ((all1.drop (x+1)).take (y-x-1)) v then some (a,a')else none
   |_,_=>none
  |_,_=>none
 else none
section
variable {P :Program}{call:d8}{nt nx0:Nat}
theorem aL1 {all:List Oper}{tm:T Value}{hp:Hp}{r:T Value×Hp}(h:M4 P call nt all tm hp=some r):∃out,xgo P call nt all hp.nx (all.zip (C0 all [])) 0 tm ⟨hp.m,hp.nx+all.length⟩ 0 []=some out/\r=(out.tm,takes hp.nx (ah3 out.I) out.es out.S):=by
 unfold M4 at h;cases hs:stat all (C0 all [])with
 |false=>rw[hs]at h;cases h
 |true=>
  rw[hs,bJ6]at h;split at h
  ·rename_i out hgo
   cases hd:dyn P ⟨hp.m,hp.nx+all.length⟩ out.es with
   |false=>rw[hd]at h;cases h
   |true=>rw[hd,bJ6,bH9]at h;exact⟨out,hgo,h.symm⟩
  ·cases h
set_option maxHeartbeats 1000000 in
theorem bn4 {ops : Array Oper} {x y : Nat} {g g' : Ground} {a a' : Operand} {tm : T Value} {hp : Hp} {r1 r2 : T Value × Hp} (hp' : ar0 (c9 ops x y g).toList (moveLast (c9 ops y x g') x).toList x y = some (a, a'))
  (h1:M4 P call nt (c9 ops x y g).toList tm hp=some r1) (h2:M4 P call nt (moveLast (c9 ops y x g') x).toList tm hp=some r2) (hd:bl0 (a9 r1.1 a) (a9 r1.1 a')=true):
  r2.1=r1.1/\r2.2.nx=r1.2.nx/\ ∀k,r2.2.m.get k=r1.2.m.get k:=by
 obtain⟨out1,h1,rfl⟩:=aL1 h1;obtain⟨out2,h2,rfl⟩:=aL1 h2;have hsz1:(c9 ops x y g).toList.length=ops.size:=by simp[c9]
 have hszw:(c9 ops y x g').size=ops.size:=by simp[c9]
 unfold ar0 at hp';generalize hb : (Nat.beq (c9 ops x y g).toList.length (y + 1) && Nat.blt x y && ((c9 ops x y g).toList.all fun o => o.guard.isNone) && Nat.beq (C0 (c9 ops x y g).toList []).length (y + 1) && Nat.beq (C0 (moveLast (c9 ops y x g') x).toList []).length (y + 1) && bv9 ((C0 (c9 ops x y g).toList []).take x) ((C0 (moveLast (c9 ops y x g') x).toList []).take x) &&
   ((((c9 ops x y g).toList.drop (x+1)).take (y-x-1)).all fun o=>Nat.beq (d6 o.op) 0)&&(((c9 ops x y g).toList.take x).zipIdx.all fun p=> !(Nat.beq (d6 p.1.op) 2)|| (aj0 (((c9 ops x y g).toList.zip (C0 (c9 ops x y g).toList [])).take x)).testBit p.2))=b at hp'
 cases b with
 |false=>cases hp'
 |true=>
 rw[bJ6]at hp';simp only[bI0,bL9]at hb;obtain⟨⟨⟨⟨⟨⟨⟨b1,b2⟩,b3⟩,b4⟩,b5⟩,b6⟩,b7⟩,b8⟩:=hb;have hxy:x<y:=bI3 b2;have b6:=bh6 b6;have hn:ops.size=y+1:=by rw[<-hsz1];exact b1
 have hxs:x<(c9 ops y x g').size:=by omega
 have hsz2:(moveLast (c9 ops y x g') x).toList.length=y+1:=by rw[Array.length_toList,U9 hxs,hszw,hn]
 have at2:∀k o,(c9 ops x y g).toList[k]? =some o-> ∃o2,(moveLast (c9 ops y x g') x).toList[O1 x (y+1) k]? =some o2/\o2.op=o.op/\o2.dst=o.dst/\(o.guard=none->o2.guard=none):=by
  intro k o ho;have hk:k<y+1:=by rw[<-b1];exact(bI2.1 ho).1
  have hl:O1 x (y+1) k<(c9 ops y x g').size:=by rw[hszw,hn];exact an2 hk
  rw[Array.getElem?_toList,M2]at ho;rw[Array.getElem?_toList,P3 hxs hl,hszw,hn,W6 hk,M2];cases hk0:ops[k]? with
  |none=>rw[hk0]at ho;split at ho<;>cases ho
  |some o0=>
   rw[hk0]at ho;have q:o.op=o0.op/\o.dst=o0.dst/\o.guard=o0.guard:=by
    split at ho<;>(simp only[bM4,bH9]at ho;subst ho;exact⟨rfl,rfl,rfl⟩)
   split
   ·exact⟨_,rfl,q.1.symm,q.2.1.symm,fun h=>by rw[q.2.2]at h;simp[ar1,h]⟩
   ·exact⟨_,rfl,q.1.symm,q.2.1.symm,fun h=>by rw[q.2.2]at h;simp[ar1,h]⟩
 generalize (c9 ops x y g).toList=all1 at*;generalize (moveLast (c9 ops y x g') x).toList=all2 at*;generalize hq1:C0 all1 []=pres1 at*;generalize hq2:C0 all2 []=pres2 at*;have l1:(all1.zip pres1).length=y+1:=by rw[List.length_zip,b1,b4,Nat.min_self]
 have l2:(all2.zip pres2).length=y+1:=by rw[List.length_zip,hsz2,b5,Nat.min_self]
 have z1:∀k (h:k<y+1),(all1.zip pres1)[k]=(all1[k],pres1[k]):=fun k h=>List.getElem_zip
 have z2:∀k (h:k<y+1),(all2.zip pres2)[k]=(all2[k],pres2[k]):=fun k h=>List.getElem_zip
 have at2':∀k (h:k<y+1) (h':O1 x (y+1) k<y+1),all2[O1 x (y+1) k].op=all1[k].op/\all2[O1 x (y+1) k].dst=all1[k].dst/\(all1[k].guard=none->all2[O1 x (y+1) k].guard=none):=by
  intro k h h';obtain⟨o2,k1,k2⟩:=at2 k all1[k] (by simp)
  rw[bJ1 (by omega),bH9]at k1
  rw[k1];exact k2
 have gd1:∀k (h:k<y+1),all1[k].guard=none:=fun k h=>by
  have:=bK9.1 b3 all1[k] (List.getElem_mem _)
  simpa using this
 have gd2:∀k (h:k<y+1),all2[k].guard=none:=by
  intro k h;have e:=aV3 (x:=x) h;have hp:=bb9 (x:=x) (n:=y+1) (by omega) h
  have:=(at2' (piL x (y+1) k) hp (by rw[e];exact h)).2.2 (gd1 _ hp)
  simpa only[e]using this
 rw[bz2 hxy l1]at h1;rw[bz3 hxy l2]at h2;split at hp'
 rotate_left
 ·cases hp'
 rename_i ox oy hox hoy;split at hp'
 rotate_left
 ·cases hp'
 rename_i a0 v a0' v' hsa hsa';cases hc:ox.dst.isNone&&oy.dst.isNone&&aq9 ((all1.drop (x+1)).take (y-x-1)) a0&&aq9 ((all1.drop (x+1)).take (y-x-1)) v with
 |false=>rw[hc]at hp';cases hp'
 |true=>
 rw[hc,bJ6,bH9,bI1]at hp';obtain⟨rfl,rfl⟩:=hp';simp only[bI0,Option.isNone_iff_eq_none]at hc;obtain⟨⟨⟨c1,c2⟩,c3⟩,c4⟩:=hc;obtain⟨t,hsx⟩:=aK6 hsa;obtain⟨t',hsy⟩:=aK6 hsa';have ex:all1[x]=ox:=by rw[bJ1 (by omega)]at hox;exact bK5 hox
 have ey:all1[y]=oy:=by rw[bJ1 (by omega)]at hoy;exact bK5 hoy
 have rx:O1 x (y+1) x=y:=by unfold O1;rw[bJ9 (by omega),bK1 rfl];omega
 have ry:O1 x (y+1) y=y-1:=by unfold O1;rw[bJ9 (by omega),bJ9 (by omega),bK1 (by omega)]
 have qx:=at2' x (by omega) (by omega)
 have qy:=at2' y (by omega) (by omega)
 simp only[rx]at qx;simp only[ry]at qy;obtain⟨i,o,j,o',d1,d2,d3⟩:=bB8 hd;have inB:∀p∈((all1.zip pres1).drop (x+1)).take (y-x-1),p.1∈(all1.drop (x+1)).take (y-x-1):=by
  intro p hp;obtain⟨k,hk⟩:=bN4.1 hp;rw[bL2]at hk;split at hk
  ·rename_i hlt
   rw[bL8,bJ1 (by omega),z1 _ (by omega),bH9]at hk
   subst hk;refine bN4.2 ⟨k,?_⟩;rw[bL2,bK1 hlt,bL8,bJ1 (by omega)]
  ·cases hk
 refine bA7 (P:=P) (call:=call) (nt:=nt) (nx0:=hp.nx) (X1:=(all1.zip pres1)[x]) (X2:=(all2.zip pres2)[y]) (Y1:=(all1.zip pres1)[y]) (Y2:=(all2.zip pres2)[y-1]) (t:=t) (t':=t') (a:=a0) (v:=v) (a':=a0') (v':=v') ?_ ?_ ?_ ?_ ?_ ?_ ?_ ?_ ?_ ?_ ?_ ?_ ?_ ?_ ?_ ?_ h1 (by rw[hsz2,<-b1]at h2;exact h2) d1 d2 d3
 ·rw[<-bz2 hxy l1]
  intro p hp;obtain⟨k,hk,rfl⟩:=List.mem_iff_getElem.1 hp;rw[z1 k (by omega)];exact gd1 k (by omega)
 ·rw[<-bz3 hxy l2]
  intro p hp;obtain⟨k,hk,rfl⟩:=List.mem_iff_getElem.1 hp;rw[z2 k (by omega)];exact gd2 k (by omega)
 ·refine List.ext_getElem (by simp[l1,l2]) fun k hk hk'=>?_
  have hkx:k<x:=by simp at hk;omega
  simp only[List.getElem_map,List.getElem_take];rw[z1 k (by omega),z2 k (by omega)]
  have rk:O1 x (y+1) k=k:=by unfold O1;rw[bK1 hkx]
  have q:=at2' k (by omega) (by omega)
  simp only[rk]at q;have hpr:pres1[k]=pres2[k]:=by
   have:(pres1.take x)[k]? =(pres2.take x)[k]? :=by rw[b6]
   rw[bL2,bL2,bK1 hkx,bK1 hkx,bJ1 (by omega),bJ1 (by omega)]at this
   exact bK5 this
  unfold bk9;rw[q.1,q.2.1,hpr]
 ·refine List.ext_getElem (by simp[l1,l2];omega) fun k hk hk'=>?_
  have hkx:k<y-x-1:=by simp at hk;omega
  simp only[List.getElem_map,List.getElem_take,List.getElem_drop];rw[z1 _ (by omega),z2 _ (by omega)]
  have rk:O1 x (y+1) (x+1+k)=x+k:=by unfold O1;rw[bJ9 (by omega),bJ9 (by omega),bK1 (by omega)];omega
  have q:=at2' (x+1+k) (by omega) (by omega)
  simp only[rk]at q;rw[q.1,q.2.1]
 ·intro p hp
  exact bI4 (bK9.1 b7 _ (inB p hp))
 ·intro k p hp hk
  rw[bL2]at hp;split at hp
  ·rename_i hkx
   rw[bJ1 (by omega),z1 k (by omega),bH9]at hp
   rw[<-hp]at hk;have:=bK9.1 b8 (all1[k],k) (by
    refine bN4.2 ⟨k,?_⟩;rw[List.getElem?_zipIdx,bL2,bK1 hkx,bJ1 (by omega)]
    simp)
   simp only[bP6,bM5]at this;simp only at hk
   rcases this with h|h
   ·rw[hk]at h;cases h
   ·exact h
  ·cases hp
 ·exact(congrArg (fun p=>p.1.op) (z1 x (by omega))).trans ((congrArg Oper.op ex).trans hsx)
 ·exact(congrArg (fun p=>p.1.op) (z2 y (by omega))).trans (qx.1.trans ((congrArg Oper.op ex).trans hsx))
 ·exact(congrArg (fun p=>p.1.op) (z1 y (by omega))).trans ((congrArg Oper.op ey).trans hsy)
 ·exact(congrArg (fun p=>p.1.op) (z2 (y-1) (by omega))).trans (qy.1.trans ((congrArg Oper.op ey).trans hsy))
 ·exact(congrArg (fun p=>p.1.dst) (z1 x (by omega))).trans ((congrArg Oper.dst ex).trans c1)
 ·exact(congrArg (fun p=>p.1.dst) (z2 y (by omega))).trans (qx.2.1.trans ((congrArg Oper.dst ex).trans c1))
 ·exact(congrArg (fun p=>p.1.dst) (z1 y (by omega))).trans ((congrArg Oper.dst ey).trans c2)
 ·exact(congrArg (fun p=>p.1.dst) (z2 (y-1) (by omega))).trans (qy.2.1.trans ((congrArg Oper.dst ey).trans c2))
 ·exact fun k hk p hp=>aJ4 c3 k hk _ (inB p hp)
 ·exact fun k hk p hp=>aJ4 c4 k hk _ (inB p hp)
end
def ax2 (nt:Nat)(s:Option (Operand×Operand))(r1 r2:T Value×Hp):Option (T Value×Hp):=match s with
 |some (a,a')=>bif bl0 (a9 r1.1 a) (a9 r1.1 a')then some r1 else ax7 nt r1 r2
 |none=>ax7 nt r1 r2
theorem al5 {P : Program} {B : BS} {w0 : World} {call : d8} {nt n x y : Nat} {ops : Array Oper} {g g' : Ground} {tm0 tm : T Value} {hp0 hp : Hp} {r1 r2 : T Value × Hp} (h1 : M4 P call nt (c9 ops x y g).toList tm0 hp0 = some r1) (h2 : M4 P call nt (moveLast (c9 ops y x g') x).toList tm0 hp0 = some r2)
  (h:ax2 nt (ar0 (c9 ops x y g).toList (moveLast (c9 ops y x g') x).toList x y) r1 r2=some (tm,hp)) {σ:Sg} {e:Exit} {D:List Deferred} {e':Exit} {c:Act} {w:World}:
  (ab7 n B w0 σ nt e r1.1 r1.2 D e' c w->ab7 n B w0 σ nt e tm hp D e' c w)/\(ab7 n B w0 σ nt e r2.1 r2.2 D e' c w->ab7 n B w0 σ nt e tm hp D e' c w):=by
 unfold ax2 at h;split at h
 ·rename_i a a' hs
  cases hd:bl0 (a9 r1.1 a) (a9 r1.1 a')with
  |false=>rw[hd]at h;exact am6 h
  |true=>
   rw[hd,bJ6,bH9]at h;subst h;obtain⟨q1,q2,q3⟩:=bn4 hs h1 h2 hd
   replace q1:r2.1=tm:=q1
   replace q2:r2.2.nx=hp.nx:=q2
   refine⟨id,fun⟨k1,k2,σ',k3,k4,k5⟩=>⟨k1,k2,σ',by rw[<-q2];exact k3,by rw[<-q1];exact k4,k5.sub (Nat.le_of_eq q2) fun i b hg=>by rw[q3];exact hg⟩⟩
 ·exact am6 h
def bA2 (P:Program)(call:d8)(nt:Nat)(ops:Array Oper)(tm:T Value)(hp:Hp)(x y:Nat):Option (T Value×Hp):=
 bif az1 0 ops.toList&&Nat.blt x ops.size&&Nat.blt y ops.size&& !(Nat.beq x y)then
  match M4 P call nt (c9 ops x y .data).toList tm hp with
  |some r1=>match M4 P call nt (moveLast (c9 ops y x .data) x).toList tm hp with
   |some r2=>ax2 nt (ar0 (c9 ops x y .data).toList (moveLast (c9 ops y x .data) x).toList x y) r1 r2
   |none=>none
  |none=>none
 else none
def u7 (P:Program):F9:=fun call nt all tm hp=>
 match M4 P call nt all tm hp with
 |some r=>some r
 |none=>match aq5 all with
  |some (x,y)=>bA2 P call nt all.toArray tm hp x y
  |none=>none
theorem as5 {P:Program}(hm:P.follows .mixedOrders=true):X9 P (u7 P):=by
 intro call hcall nt ops id tm hp tm' hp' h B w0 σ a w ht hw r;unfold u7 at h;split at h
 ·rename_i r1 hr
  cases h;exact bA5 hm call hcall nt ops id tm hp tm' hp' hr B w0 σ a w ht hw r
 ·split at h
  ·rename_i x y _
   unfold bA2 at h;cases hb:az1 0 ops.toList.toArray.toList&&Nat.blt x ops.toList.toArray.size&&Nat.blt y ops.toList.toArray.size&& !(Nat.beq x y)with
   |false=>grind
   |true=>
    rw[hb,bJ6]at h;have e0:ops.toList.toArray=ops:=by simp
    rw[e0]at h hb;simp only[bI0,bM5]at hb;obtain⟨⟨⟨b1,b2⟩,b3⟩,b4⟩:=hb;have hx:x<ops.size:=by simp_all
    have hy:y<ops.size:=by simp_all
    have hne:x≠y:=fun e=>by rw[e]at b4;simp at b4
    have hback:∀(i:Nat) o,ops[i]? =some o-> ∀e∈o.after,Region.binds .any e=true->e.on<i:=by
     intro i o ho e he hbd;have:=aH3 b1 i o (by simpa using ho) e he hbd
     omega
    split at h
    ·rename_i r1 h1
     split at h
     ·rename_i r2 h2
      refine wpIn_region_draw fun t=>?_
      rw[hm];have hl:=aw8 hback t
      rcases hl.first hx hy hne with⟨l1,l2,e,hmem⟩| ⟨l1,l2,e,hmem⟩
      ·
       rw[e]at hl⊢;have hl1:=hl.edge (g:= .data) hmem;have ha:=as6 (B:=B) (w0:=w0) hcall (ops:=c9 ops x y .data) h1 ht hw r;have hw1:=ao3 hl1 _ [] _ _ _ _ rfl (by simp[c9]) (fun j hj=>by simp[c9]at hj⊢;simp[hj]) ha
       have hw2:=N9 (fun e' a' w' hq=>(al5 h1 h2 h).1 hq) _ hw1
       refine J0 (ac7 ops x y .data) _ (fun i hi=>(hl.mem i).1 hi) ?_
       simp_all
      ·
       rw[e]at hl⊢;have hl1:=hl.edge (g:= .data) hmem;have hsz:(c9 ops y x .data).size=ops.size:=by simp[c9]
       have hl2:=hl1.moveLast (x:=x) (by rw[hsz];exact hx)
       have ha:=as6 (B:=B) (w0:=w0) hcall (ops:=moveLast (c9 ops y x .data) x) h2 ht hw r;have hw1:=ao3 hl2 _ [] _ _ _ _ rfl (by simp) (fun j hj=>by simp[hj]) ha
       have hw2:=N9 (fun e' a' w' hq=>(al5 h1 h2 h).2 hq) _ hw1
       have hw3:=J0 (ay8 (ops:=c9 ops y x .data) (x:=x) (by rw[hsz];exact hx)) _ (fun i hi=>(hl1.mem i).1 hi) hw2
       refine J0 (ac7 ops y x .data) _ (fun i hi=>(hl.mem i).1 hi) ?_
       simp_all
     ·cases h
    ·cases h
  ·cases h
def exec (P:Program)(ov:FuncId->Option TypeId)(n:Nat):d8:=W0 P (u7 P) ov n
theorem aM1 {P:Program}(hm:P.follows .mixedOrders=true){ov:FuncId->Option TypeId}(hov:∀g t,ov g=some t->ai7 P g t)(n:Nat):E7 P (exec P ov n):=aR4 (as5 hm) hov n
end Go.Xe
end PartXmD
noncomputable section PartXm16
namespace Go.Xe
open Go.RowKit
def yes (r:Option (Value×Hp)):Bool:=
 match r with
 |some (.bool b,_)=>b
 |_=>false
def Hp.empty :Hp:=⟨.e,0⟩
theorem HR.start (w:World):HR (BS.below w) w (fun _=>none) Hp.empty w:=
 ⟨rfl,rfl,rfl,bK2 _,fun _ (h:_<_)=>h,fun _ _=>rfl,fun _ _=>rfl,fun i b h=>by simp[Hp.empty,T.get_e]at h,fun i j b b' p q h=>by simp[Hp.empty,T.get_e]at h⟩
theorem HR.toBelow {σ:Sg}{hp:Hp}{w w':World}(h:HR (BS.below w) w σ hp w'):Below w.heap.size w w':=
 ⟨h.os,h.tape,h.output,h.size,h.kept⟩
def noOv :FuncId->Option TypeId:=fun _=>none
theorem bC8 {P:Program}:∀g t,noOv g=some t->ai7 P g t:=fun _ _ h=>by cases h
def ad1 (P:Program)(g:FuncId):Func:=(P.funcs[g]?).getD {name:= "",origin:= "",params:= #[],resultTypes:= #[],nfree:=0,ntmps:=0,results:= #[],body:=none,norace:=false,tmpNames:= #[]}
theorem ai7.of {P : Program} {g : FuncId} {t : TypeId} (r : TypeId) (h0 : (P.funcs[g]?).isSome = true) (h1 : ((ad1 P g).name == "runtime.NumGoroutine") = false) (h2 : (ad1 P g).body.isNone = true)
  (h3:Extern.findNext (ad1 P g)=none) (h4:Extern.find (ad1 P g)=some (Extern.SlicesOverlaps.overlaps #[t,t] #[r])) (hT:t≠ai1:=by decide):ai7 P g t:=by
 refine .inr ⟨hT,ad1 P g,r,?_,h1,h2,h3,h4⟩;unfold ad1;cases h:P.funcs[g]? with
 |none=>rw[h]at h0;cases h0
 |some fn=>rfl
def aN2 (g0:FuncId)(t0:TypeId)(rest:FuncId->Option TypeId):FuncId->Option TypeId:=fun g=>bif Nat.beq g g0 then some t0 else rest g
theorem bD1 {P:Program}{g0:FuncId}{t0:TypeId}{rest:FuncId->Option TypeId}(h:ai7 P g0 t0)(hr:∀g t,rest g=some t->ai7 P g t):∀g t,aN2 g0 t0 rest g=some t->ai7 P g t:=by
 intro g t hg;unfold aN2 at hg;cases hb:Nat.beq g g0 with
 |true=>
  rw[hb,bJ6,bH9]at hg;rw[bI4 hb,<-hg];exact h
 |false=>rw[hb,bJ7]at hg;exact hr g t hg
theorem bD2 {P:Program}{g:FuncId}(h:aZ8 P g):ai7 P g ai1:= .inl ⟨rfl,h⟩
end Go.Xe
end PartXm16
noncomputable section PartXm17
namespace Go.Xe
open Go.RowKit
section
open Go.ChangeShapes
variable {H :Type}{enc:TypeId×Value->H}{P:Program}{w:World}{base:Nat}{spare:Nat->Bool}{held:Bool}
end
end Go.Xe
end PartXm17
noncomputable section PartXm18
namespace Go.Xe
open Go.RowKit
def aA1 :Code->List Code
 | .seq a b=>aA1 a++aA1 b
 | .scope a=>aA1 a
 |c=>[c]
def wpL (P:Program):List Code->(Exit->Act->World->Prop)->Act->World->Prop
 | [],Q=>fun a w=>Q .normal a w
 |c::cs,Q=>c.wpIn (RF none) 0 P (Exit.then (wpL P cs Q) Q)
theorem bA0 {P:Program}{Q:Exit->Act->World->Prop}(hq:∀l a w,¬Q (.goto l) a w):∀(c:Code) (cs:List Code) (a:Act) (w:World),wpL P (aA1 c++cs) Q a w->c.wpIn (RF none) 0 P (Exit.then (wpL P cs Q) Q) a w:=by
 intro c
 induction c with
 |seq x y ihx ihy=>
  intro cs a w h;rw[aA1,bJ3]at h;refine wpIn_seq (bS5 (ihx _ a w h) fun e a' w' hq=>?_)
  cases e<;>first|exact hq|exact ihy _ _ _ hq
 |scope x ihx=>
  intro cs a w h;rw[aA1]at h;refine P0 (bS5 (ihx _ a w h) fun e a' w' hh=>?_)
  cases e with
  |goto l=>exact hq l a' w' hh
  |_=>exact hh
 |_=>intro cs a w h;exact h
theorem be2 {P:Program}{Q:Exit->Act->World->Prop}(hq:∀l a w,¬Q (.goto l) a w){c:Code}{a:Act}{w:World}(h:wpL P (aA1 c) Q a w):c.wpIn (RF none) 0 P Q a w:=by
 rw[<-bQ9 (aA1 c)]at h;refine bS5 (bA0 hq c [] a w h) fun e a' w' hq=>?_
 cases e<;>exact hq
theorem ae8 {P:Program}{Q Q':Exit->Act->World->Prop}(hq:∀e a w,Q e a w->Q' e a w):∀(cs:List Code) {a:Act} {w:World},wpL P cs Q a w->wpL P cs Q' a w
 | [],_,_,h=>hq _ _ _ h
 |c::cs,_,_,h=>bS5 h fun e a' w' hh=>by cases e<;>first|exact ae8 hq cs hh|exact hq _ _ _ hh
theorem aD8 {P:Program}{Q:Exit->Act->World->Prop}:∀(cs ds:List Code) {a:Act} {w:World},wpL P cs (Exit.then (wpL P ds Q) Q) a w->wpL P (cs++ds) Q a w
 | [],_,_,_,h=>h
 |c::cs,ds,_,_,h=>bS5 h fun e a' w' hh=>by cases e<;>first|exact aD8 cs ds hh|exact hh
def Q4 (P:Program)(nt n0:Nat)(cs:List Code)(tm:T Value)(hp:Hp)(e:Exit)(tm':T Value)(hp':Hp):Prop:=
 ∀B w0 σ a w,TR σ nt tm a.tmps->HR B w0 σ hp w->a.defers=[]->wpL P cs (fun e' a' w'=>e'=e/\a'.defers=[]/\ ∃σ',(∀i,i<n0->σ' i=σ i)/\TR σ' nt tm' a'.tmps/\HR B w0 σ' hp' w') a w
theorem Q4.append {P:Program}{nt n0:Nat}{cs ds:List Code}{tm tm1 tm2:T Value}{hp hp1 hp2:Hp}{e:Exit}(h:Q4 P nt n0 cs tm hp .normal tm1 hp1)(k:Q4 P nt n0 ds tm1 hp1 e tm2 hp2):Q4 P nt n0 (cs++ds) tm hp e tm2 hp2:=by
 intro B w0 σ a w ht hw hd;refine aD8 cs ds (ae8 ?_ cs (h B w0 σ a w ht hw hd))
 rintro _ a' w' ⟨rfl,hd',σ',hl,ht',hw'⟩
 refine ae8 ?_ ds (k B w0 σ' a' w' ht' hw' hd')
 rintro _ a2 w2 ⟨rfl,hd2,σ2,hl2,ht2,hw2⟩
 exact⟨rfl,hd2,σ2,fun i hi=>(hl2 i hi).trans (hl i hi),ht2,hw2⟩
def aE9 (P:Program)(dr:F9)(call:d8)(nt m:Nat):List Code->T Value->Hp->Option XR
 | [],tm,hp=>some (.mk .normal tm hp [])
 |c::cs,tm,hp=>match i9 P dr call nt none m c tm hp []with
  |some (.mk .normal tm' hp' [])=>aE9 P dr call nt m cs tm' hp'
  |some (.mk .normal _ _ (_::_))=>none
  |r=>r
theorem DsR.nil {σ:Sg}{D:List Deferred}(h:DsR σ [] D):D=[]:=by
 cases D with
 |nil=>rfl
 |cons d D=>exact h.elim
theorem ak7 {P : Program} {dr : F9} {call : d8} (hcall : E7 P call) (hdr : X9 P dr) {nt m n0 : Nat} : ∀ (cs : List Code) {tm : T Value} {hp : Hp} {e : Exit} {tm' : T Value} {hp' : Hp},
  aE9 P dr call nt m cs tm hp=some (.mk e tm' hp' [])->n0<=hp.nx->Q4 P nt n0 cs tm hp e tm' hp'
 | [],tm,hp,e,tm',hp',h,_=>by
  simp only[aE9,bH9,XR.mk.injEq]at h;obtain⟨rfl,rfl,rfl,_⟩:=h;exact fun B w0 σ a w ht hw hd=>⟨rfl,hd,σ,fun _ _=>rfl,ht,hw⟩
 |c::cs,tm,hp,e,tm',hp',h,hn0=>by
  intro B w0 σ a w ht hw hd;simp only[aE9]at h;cases hx:i9 P dr call nt none m c tm hp []with
  |none=>rw[hx]at h;cases h
  |some r=>
   obtain⟨e1,tm1,hp1,ds1⟩:=r;refine bS5 ((O2 (B:=B) (w0:=w0) hcall hdr m).1 c tm hp [] e1 tm1 hp1 ds1 σ a w none hx ht hw (by rw[hd];trivial) trivial) fun e' a' w' hq=>?_
   obtain⟨rfl,σ',gr,hd',ht',hw'⟩:=hq;rw[hx]at h;cases e' with
   |normal=>
    cases ds1 with
    |nil=>
     refine ae8 ?_ cs (ak7 hcall hdr cs h (bN7 hn0 gr.nx) B w0 σ' a' w' ht' hw' hd'.nil)
     rintro _ a2 w2 ⟨rfl,hd2,σ2,hl2,ht2,hw2⟩
     exact⟨rfl,hd2,σ2,fun i hi=>(hl2 i hi).trans (gr.low i (by omega)),ht2,hw2⟩
    |cons d ds=>cases h
   |_=>
    simp only[bH9,XR.mk.injEq]at h;obtain⟨rfl,rfl,rfl,rfl⟩:=h;exact⟨rfl,hd'.nil,σ',fun i hi=>gr.low i (by omega),ht',hw'⟩
def ac5 (P:Program)(nt n0 m:Nat)(c:Code)(tm:T Value)(hp:Hp)(e:Exit)(tm':T Value)(hp':Hp):Prop:=
 ∀B w0 σ a w,TR σ nt tm a.tmps->HR B w0 σ hp w->a.defers=[]->Code.roundsIn (RF none) 0 P c (fun e' a' w'=>e'=e/\a'.defers=[]/\ ∃σ',(∀i,i<n0->σ' i=σ i)/\TR σ' nt tm' a'.tmps/\HR B w0 σ' hp' w') m a w
theorem ac5.runs {P:Program}{nt n0 m:Nat}{c:Code}{tm tm':T Value}{hp hp':Hp}{e:Exit}(h:ac5 P nt n0 m c tm hp e tm' hp')(he:e≠ .normal):Q4 P nt n0 [.loop c] tm hp e tm' hp':=by
 intro B w0 σ a w ht hw hd;refine bS5 (wpIn_loop_rounds m (h B w0 σ a w ht hw hd)) fun e' a' w' hq=>?_
 obtain⟨rfl,hrest⟩:=hq;cases e' with
 |normal=>exact absurd rfl he
 |_=>exact⟨rfl,hrest⟩
theorem Q4.block {P:Program}{nt n0 id:Nat}{c:Code}{tm tm':T Value}{hp hp':Hp}(h:Q4 P nt n0 [c] tm hp (.exit id) tm' hp'):Q4 P nt n0 [.block id c] tm hp .normal tm' hp':=by
 intro B w0 σ a w ht hw hd;refine wpIn_block (bS5 (h B w0 σ a w ht hw hd) fun e' a' w' hq=>?_)
 cases e' with
 |normal=>obtain⟨h1,_⟩:=hq;cases h1
 |exit j=>
  obtain⟨h1,h2,h3⟩:=hq;cases h1;simp only[Exit.inBlock,bR1];exact⟨rfl,h2,h3⟩
 |_=>obtain⟨h1,_⟩:=hq;cases h1
end Go.Xe
end PartXm18
noncomputable section PartXm19
namespace Go.Xe
open Go.RowKit
inductive Bl where
 |cells (n:Nat) (vs:List Value) (elem esz:Nat)
 |map (es:List (Value×Value)) (reg:Bool)
 |gone
structure St where
 tms:List Value
 bls:List Bl
def Bl.blk :Bl->Option Blk
 | .cells n vs e z=>some (.cells (fill .e 0 vs) n e z)
 | .map es reg=>some (.map es reg)
 | .gone=>none
def aR8 (c:T Blk):Nat->List Bl->T Blk
 |_,[]=>c
 |k,b::bs=>aR8 (c.set k b.blk) (k+1) bs
def am1 (c:T Nat):Nat->List Nat->T Nat
 |_,[]=>c
 |k,v::vs=>am1 (c.set k (some v)) (k+1) vs
def St.tm (s:St):T Value:=fill .e 0 s.tms
def St.hp (s:St):Hp:=⟨aR8 .e 0 s.bls,s.bls.length⟩
theorem Bl.blk_ro {x:Bl}{b:Blk}(h:x.blk=some b):S7 b=false:=by
 cases x<;>cases h<;>rfl
theorem bl4 :∀(vs:List Bl) (c:T Blk) (k j:Nat),(aR8 c k vs).get j=if k<=j/\j<k+vs.length then(vs[j-k]?).bind Bl.blk else c.get j:=by
 intro vs
 induction vs with
 |nil=>intro c k j;simp only[aR8,bS7,bO5];rw[bJ9 (by omega)]
 |cons v vs ih=>
  intro c k j;simp only[aR8,ih,T.get_set,bM2]
  by_cases h1:j=k
  ·subst h1;rw[bJ9 (by omega),bK1 rfl,bK1 (by omega)];simp
  ·by_cases h2:k+1<=j/\j<k+1+vs.length
   ·rw[bK1 h2,bK1 (by omega)]
    have:j-k=(j-(k+1))+1:=by omega
    rw[this];simp
   ·rw[bJ9 h2,bJ9 h1,bJ9 (by omega)]
theorem bl5 :∀(vs:List Nat) (c:T Nat) (k j:Nat),(am1 c k vs).get j=if k<=j/\j<k+vs.length then vs[j-k]? else c.get j:=by
 intro vs
 induction vs with
 |nil=>intro c k j;simp only[am1,bS7,bO5];rw[bJ9 (by omega)]
 |cons v vs ih=>
  intro c k j;simp only[am1,ih,T.get_set,bM2]
  by_cases h1:j=k
  ·subst h1;rw[bJ9 (by omega),bK1 rfl,bK1 (by omega)];simp
  ·by_cases h2:k+1<=j/\j<k+1+vs.length
   ·rw[bK1 h2,bK1 (by omega)]
    have:j-k=(j-(k+1))+1:=by omega
    rw[this];simp
   ·rw[bJ9 h2,bJ9 h1,bJ9 (by omega)]
theorem aI0 {vs:List Nat}{j:Nat}:(am1 .e 0 vs).get j=vs[j]? :=by
 rw[bl5]
 by_cases h:j<vs.length
 ·rw[bK1 (by omega),bQ1]
 ·rw[bJ9 (by omega),T.get_e,bS8 (by omega)]
theorem aR9 {vs:List Value}{j:Nat}:(fill .e 0 vs).get j=vs[j]? :=by
 rw[l6]
 by_cases h:j<vs.length
 ·rw[bK1 (by omega),bQ1]
 ·rw[bJ9 (by omega),T.get_e,bS8 (by omega)]
def idB (x:Option Nat)(j:Nat):Bool:=match x with|some i=>Nat.beq i j|none=>false
def adB (ρ:T Nat)(a b:Option Addr):Bool:=
 match a,b with
 |none,none=>true
 |some ⟨i,o,none⟩,some ⟨j,p,none⟩=>idB (ρ.get i) j&&Nat.beq o p
 |some ⟨i,o,some k⟩,some ⟨j,p,some l⟩=>Nat.beq i j&&Nat.beq o p&&Nat.beq k l
 |_,_=>false
def vm (ρ:T Nat):Nat->Value->Value->Bool
 |0,_,_=>false
 |n+1,x,y=>match x,y with
  | .bool a,.bool b=>a==b
  | .int j a,.int k b=>decide (j=k)&&decide (a=b)
  | .string a,.string b=>a.data.toList==b.data.toList
  | .pointer a,.pointer b=>adB ρ a b
  | .slice a l c,.slice b l' c'=>adB ρ a b&&Nat.beq l l'&&Nat.beq c c'
  | .map none,.map none=>true
  | .map (some i),.map (some j)=>idB (ρ.get i) j
  | .nilFunc,.nilFunc=>true
  | .nilIface,.nilIface=>true
  | .iface t v,.iface u w=>Nat.beq t u&&vm ρ n v w
  | .agg a,.agg b=>U6 (vm ρ n) a.toList b.toList
  | .tuple a,.tuple b=>U6 (vm ρ n) a.toList b.toList
  | .func f a c,.func g b d=>decide (f=g)&&U6 (vm ρ n) a.toList b.toList&&U6 (vm ρ n) c.toList d.toList
  | .complex f a b,.complex g c d=>decide (f=g)&&Nat.beq a c&&Nat.beq b d
  | .chan (some i),.chan (some j)=>idB (ρ.get i) j
  |_,_=>false
theorem ay9 {f:Value->Value->Bool}:∀ {xs ys:List Value},U6 f xs ys=true->xs.length=ys.length/\ ∀(i:Nat) x y,xs[i]? =some x->ys[i]? =some y->f x y=true
 | [],[],_=>⟨rfl,fun i x y h=>by simp at h⟩
 | [],_::_,h=>by cases h
 |_::_,[],h=>by cases h
 |a::xs,b::ys,h=>by
  simp only[U6,bI0]at h;obtain⟨h1,h2⟩:=ay9 h.2;refine⟨by simp[h1],fun i x y hx hy=>?_⟩
  cases i with
  |zero=>simp at hx hy;subst hx;subst hy;exact h.1
  |succ i=>exact h2 i x y (by simpa using hx) (by simpa using hy)
theorem bj9 {σ σ1 : Sg} {f : Value → Value → Bool} (ih : ∀ x y u, f x y = true → VR σ y u → VR σ1 x u) {a b c : Array Value} (h : U6 f a.toList b.toList = true) (h1 : b.size = c.size) (h2 : ∀ (i : Nat) x y, b[i]? = some x → c[i]? = some y → VR σ x y) :
  a.size=c.size/\ ∀(i:Nat) x y,a[i]? =some x->c[i]? =some y->VR σ1 x y:=by
 obtain⟨k1,k2⟩:=ay9 h;have k1:a.size=b.size:=by rw[<-Array.length_toList,<-Array.length_toList];exact k1
 refine⟨k1.trans h1,fun i x y hx hy=>?_⟩
 have hi:i<a.size:=(bJ4.1 hx).1;have hb:b[i]? =some (b[i]'(by omega)):=by simp[show i<b.size by omega]
 exact ih _ _ _ (k2 i x _ (by rw[Array.getElem?_toList];exact hx) (by rw[Array.getElem?_toList];exact hb)) (h2 i _ y hb hy)
theorem bk0 {ρ:T Nat}{σ σ1:Sg}(hρ:∀i j,ρ.get i=some j->σ1 i=σ j):∀(n:Nat) (x y u:Value),vm ρ n x y=true->VR σ y u->VR σ1 x u:=by
 have idOK:∀ {i j},idB (ρ.get i) j=true->σ1 i=σ j:=by
  intro i j h;unfold idB at h;split at h
  ·rename_i k hk
   rw[<-bI4 h];exact hρ i k hk
  ·cases h
 intro n
 induction n with
 |zero=>intro x y u h;cases h
 |succ n ih=>
  intro x y u h hv;simp only[vm]at h;split at h
  ·simp at h;subst h;cases hv;exact .bool _
  ·simp only[bI0,bK0]at h;obtain⟨rfl,rfl⟩:=h;cases hv;exact .int _ _
  ·rename_i a b
   obtain⟨⟨a⟩⟩:=a;obtain⟨⟨b⟩⟩:=b;simp at h;subst h;cases hv;exact .string _
  ·rename_i a b
   unfold adB at h;split at h
   ·cases hv;exact .nilp
   ·rename_i i o j p
    simp only[bI0]at h;rw[bI4 h.2];cases hv with
    |ptr _ _ q hq=>exact .ptr i p q ((idOK h.1).trans hq)
   ·cases hv
   ·cases h
  ·rename_i a l c b l' c'
   simp only[bI0]at h;rw[bI4 h.1.2,bI4 h.2]
   replace h:=h.1.1
   unfold adB at h;split at h
   ·cases hv;exact .nils _ _
   ·rename_i i o j p
    simp only[bI0]at h;rw[bI4 h.2];cases hv with
    |slice _ _ q _ _ c2 hq hc hl=>exact .slice i p q _ _ c2 ((idOK h.1).trans hq) hc hl
   ·rename_i i o k j p l
    simp only[bI0]at h;rw[bI4 h.1.1,bI4 h.1.2,bI4 h.2];cases hv;exact .vague _ _
   ·cases h
  ·cases hv;exact .nilm
  ·cases hv with
   |map _ p hp=>exact .map _ p ((idOK h).trans hp)
  ·cases hv;exact .nilf
  ·cases hv;exact .nili
  ·simp only[bI0]at h
   rw[bI4 h.1];cases hv with
   |iface _ _ u hv=>exact .iface _ _ _ (ih _ _ _ h.2 hv)
  ·cases hv with
   |agg _ ys h1 h2=>obtain⟨k1,k2⟩:=bj9 ih h h1 h2;exact .agg _ _ k1 k2
  ·cases hv with
   |tuple _ ys h1 h2=>obtain⟨k1,k2⟩:=bj9 ih h h1 h2;exact .tuple _ _ k1 k2
  ·simp only[bI0,bK0]at h
   obtain⟨⟨rfl,ha⟩,hb⟩:=h;cases hv with
   |func _ _ ys _ ds h1 h2 h3 h4=>
    obtain⟨k1,k2⟩:=bj9 ih ha h1 h2;obtain⟨k3,k4⟩:=bj9 ih hb h3 h4;exact .func _ _ _ _ _ k1 k2 k3 k4
  ·simp only[bI0,bK0]at h
   obtain⟨⟨rfl,ha⟩,hb⟩:=h;rw[bI4 ha,bI4 hb];cases hv with
   |ival _ _ _ n h1 h2=>exact .ival _ _ _ n h1 h2
  ·cases hv with
   |yield _ p hp=>exact .yield _ p ((idOK h).trans hp)
  ·cases h
def incB :Nat->List Nat->Bool
 |_,[]=>true
 |lo,a::l=>Nat.ble lo a&&incB (a+1) l
theorem aS6 :∀ {l:List Nat} {lo:Nat},incB lo l=true-> ∀(i a:Nat),l[i]? =some a->lo<=a/\ ∀(j b:Nat),i<j->l[j]? =some b->a<b
 | [],_,_,i,a,h=>by simp at h
 |x::l,lo,h,i,a,ha=>by
  simp only[incB,bI0]at h;have h1:=bI3 h.1;have ih:=aS6 h.2;cases i with
  |zero=>
   simp at ha;subst ha;refine⟨h1,fun j b hj hb=>?_⟩
   cases j with
   |zero=>omega
   |succ j=>have:=(ih j b (by simpa using hb)).1;omega
  |succ i=>
   obtain⟨k1,k2⟩:=ih i a (by simpa using ha)
   refine⟨by omega,fun j b hj hb=>?_⟩
   cases j with
   |zero=>omega
   |succ j=>exact k2 j b (by omega) (by simpa using hb)
def tmsB (ρ:T Nat)(tm:T Value):Nat->List Value->Bool
 |_,[]=>true
 |k,v::vs=>vm ρ 100 v ((tm.get k).getD undef)&&tmsB ρ tm (k+1) vs
theorem aW8 {ρ:T Nat}{tm:T Value}:∀ {vs:List Value} {k:Nat},tmsB ρ tm k vs=true-> ∀(i:Nat) v,vs[i]? =some v->vm ρ 100 v ((tm.get (k+i)).getD undef)=true
 | [],_,_,i,v,h=>by simp at h
 |x::vs,k,h,i,v,hv=>by
  simp only[tmsB,bI0]at h;cases i with
  |zero=>simp at hv;subst hv;exact h.1
  |succ i=>
   have:=aW8 h.2 i v (by simpa using hv)
   rw[show k+(i+1)=k+1+i by omega]
   exact this
def mapB (ρ:T Nat):List (Value×Value)->List (Value×Value)->Bool
 | [],[]=>true
 |x::xs,y::ys=>vm ρ 100 x.1 y.1&&vm ρ 100 x.2 y.2&&mapB ρ xs ys
 |_,_=>false
theorem aT1 {ρ:T Nat}:∀ {xs ys:List (Value×Value)},mapB ρ xs ys=true->xs.length=ys.length/\ ∀(i:Nat) x,xs[i]? =some x-> ∃y,ys[i]? =some y/\vm ρ 100 x.1 y.1=true/\vm ρ 100 x.2 y.2=true
 | [],[],_=>⟨rfl,fun i x h=>by simp at h⟩
 | [],_::_,h=>by cases h
 |_::_,[],h=>by cases h
 |a::xs,b::ys,h=>by
  simp only[mapB,bI0]at h;obtain⟨h1,h2⟩:=aT1 h.2;refine⟨by simp[h1],fun i x hx=>?_⟩
  cases i with
  |zero=>simp at hx;subst hx;exact⟨b,rfl,h.1.1,h.1.2⟩
  |succ i=>obtain⟨y,k1,k2⟩:=h2 i x (by simpa using hx);exact⟨y,by simpa using k1,k2⟩
def blB (ρ:T Nat)(x:Bl)(y:Option Blk):Bool:=
 match x,y with
 | .gone,_=>true
 | .cells n vs e z,some (.cells c k e' z')=>Nat.beq n k&&Nat.beq e e'&&Nat.beq z z'&&(match n9 c 0 k with|some ws=>U6 (vm ρ 100) vs ws|none=>false)
 | .map es reg,some (.map es' reg')=>(reg==reg')&&mapB ρ es es'
 |_,_=>false
theorem bG2 {ρ:T Nat}{x:Bl}{b c:Blk}(h:blB ρ x (some c)=true)(hb:x.blk=some b):S7 c=false:=by
 unfold blB at h;split at h
 ·cases hb
 ·rename_i e;cases e;rfl
 ·rename_i e;cases e;rfl
 ·cases h
def blsB (ρ:T Nat)(m:T Blk):List Nat->List Bl->Bool
 | [],[]=>true
 |j::js,b::bs=>blB ρ b (m.get j)&&blsB ρ m js bs
 |_,_=>false
theorem aR3 {ρ:T Nat}{m:T Blk}:∀ {js:List Nat} {bs:List Bl},blsB ρ m js bs=true->js.length=bs.length/\ ∀(i:Nat) b,bs[i]? =some b-> ∃j,js[i]? =some j/\blB ρ b (m.get j)=true
 | [],[],_=>⟨rfl,fun i b h=>by simp at h⟩
 | [],_::_,h=>by cases h
 |_::_,[],h=>by cases h
 |j::js,b::bs,h=>by
  simp only[blsB,bI0]at h;obtain⟨h1,h2⟩:=aR3 h.2;refine⟨by simp[h1],fun i x hx=>?_⟩
  cases i with
  |zero=>simp at hx;subst hx;exact⟨j,rfl,h.1⟩
  |succ i=>obtain⟨y,k1,k2⟩:=h2 i x (by simpa using hx);exact⟨y,by simpa using k1,k2⟩
def aX0 (l:List Nat)(nt:Nat)(tm:T Value)(hp:Hp)(s:St):Bool:=
 incB 0 l&&Nat.beq s.tms.length nt&&(am1 .e 0 l).force fun ρ=>tmsB ρ tm 0 s.tms&&blsB ρ hp.m l s.bls
theorem bG1 {σ σ1:Sg}{ρ:T Nat}(hρ:∀i j,ρ.get i=some j->σ1 i=σ j){p:Pl}{x:Bl}{y b:Blk}{o:Obj}(h:blB ρ x (some y)=true)(hb:x.blk=some b)(ho:BR σ p y o):BR σ1 p b o:=by
 cases x with
 |gone=>cases hb
 |map es reg=>
  simp only[Bl.blk,bH9]at hb;subst hb;cases y with
  |map es' reg'=>
   simp only[blB,bI0,beq_iff_eq]at h;obtain⟨rfl,hmb⟩:=h;obtain⟨h1,h2⟩:=aT1 hmb;obtain⟨ents,clock,rfl,k2,k3,k4⟩:=ho;refine⟨ents,clock,rfl,k2.trans h1.symm,fun j x e hx he=>?_,k4⟩
   obtain⟨y,hy,m1,m2⟩:=h2 j x hx;obtain⟨v1,v2⟩:=k3 j y e hy he;exact⟨bk0 hρ 100 _ _ _ m1 v1,bk0 hρ 100 _ _ _ m2 v2⟩
  |_=>cases h
 |cells n vs e z=>
  simp only[Bl.blk,bH9]at hb;subst hb;cases y with
  |cells c k e' z'=>
   simp only[blB,bI0]at h;obtain⟨⟨⟨h1,h2⟩,h3⟩,h4⟩:=h;have h1:=bI4 h1;have h2:=bI4 h2;have h3:=bI4 h3;subst h1 h2 h3;split at h4
   ·rename_i ws hws
    obtain⟨l1,l2⟩:=j9 hws;obtain⟨m1,m2⟩:=ay9 h4;obtain⟨C,k1,k2,k3,k4,k5⟩:=ho;refine⟨C,k1,k2,k3,k4,fun j hj=>?_⟩
    obtain⟨v,u,q1,q2,q3⟩:=k5 j hj;have hw:ws[j]? =some v:=by rw[l2 j hj,bL1];exact q1
    have hjv:j<vs.length:=by omega
    have hv:vs[j]? =some vs[j]:=by simp[hjv]
    exact⟨vs[j],u,by rw[aR9];exact hv,q2,bk0 hρ 100 _ _ _ (m2 j _ _ hv hw) q3⟩
   ·cases h4
  |_=>cases h
theorem aX1 {l : List Nat} {nt : Nat} {tm : T Value} {hp : Hp} {s : St} (h : aX0 l nt tm hp s = true) {B : BS} {w0 : World} {σ : Sg} {tmps : Array Value} {w : World} (ht : TR σ nt tm tmps) (hw : HR B w0 σ hp w) :
  ∃σ1,σ1=(fun i=>(l[i]?).bind σ)/\TR σ1 nt s.tm tmps/\HR B w0 σ1 s.hp w:=by
 unfold aX0 at h;rw[T.force_eq]at h;simp only[bI0]at h;obtain⟨⟨h1,h2⟩,h3,h4⟩:=h;have h2:=bI4 h2;have hinc:=aS6 h1;obtain⟨b1,b2⟩:=aR3 h4;refine⟨fun i=>(l[i]?).bind σ,rfl,⟨ht.size,fun k=>?_⟩,?_⟩
 ·have hρ : ∀ i j, (am1 .e 0 l).get i = some j → (l[i]?).bind σ = σ j := by
   intro i j hij;rw[aI0]at hij;rw[hij];rfl
  unfold St.tm;rw[aR9]
  by_cases hk:k<s.tms.length
  ·have hv:s.tms[k]? =some s.tms[k]:=by simp[hk]
   have:=aW8 h3 k _ hv;rw[hv,bM1];rw[bL1]at this;exact bk0 hρ 100 _ _ _ this (ht.at_ k)
  ·have e1:s.tms[k]? =none:=bS8 (by omega)
   have e2:tmps.getD k undef=undef:=by simp[Array.getD,ht.size,show¬k<nt by omega]
   rw[e1,e2,Option.getD_none];exact VR.undef _
 ·have hρ : ∀ i j, (am1 .e 0 l).get i = some j → (l[i]?).bind σ = σ j := by
   intro i j hij;rw[aI0]at hij;rw[hij];rfl
  have get:∀i b,s.hp.m.get i=some b-> ∃x j y,s.bls[i]? =some x/\x.blk=some b/\l[i]? =some j/\hp.m.get j=some y/\blB (am1 .e 0 l) x (some y)=true:=by
   intro i b hib;unfold St.hp at hib;simp only at hib;rw[bl4]at hib
   by_cases hi:i<s.bls.length
   ·rw[bK1 (by omega),bQ1,Option.bind_eq_some_iff]at hib
    obtain⟨x,hx,hb⟩:=hib;obtain⟨j,hj,hxb⟩:=b2 i x hx;cases hy:hp.m.get j with
    |none=>
     rw[hy]at hxb;cases x with
     |gone=>cases hb
     |_=>cases hxb
    |some y=>rw[hy]at hxb;exact⟨x,j,y,hx,hb,hj,hy,hxb⟩
   ·rw[bJ9 (by omega),T.get_e]at hib
    cases hib
  refine⟨hw.os,hw.tape,hw.output,hw.size,hw.old,hw.kept,fun i hi=>?_,fun i b hib=>?_,fun i j b b' p q hi hj hne hp1 hq1=>?_⟩
  ·have hi:s.bls.length<=i:=hi
   show(l[i]?).bind σ=Option.none;rw[bS8 (show l.length<=i by omega)]
   rfl
  ·obtain⟨x,j,y,hx,hb,hj,hy,hxy⟩:=get i b hib
   obtain⟨p,o,k1,k2,k3,k4⟩:=hw.live j y hy;exact⟨p,o,by rw[hj];exact k1,k2.like (bG2 hxy hb) (Bl.blk_ro hb),k3,bG1 hρ hxy hb k4⟩
  ·obtain⟨x,k,y,hx,hb,hk,hy,hxy⟩:=get i b hi
   obtain⟨x',k',y',hx',hb',hk',hy',hxy'⟩:=get j b' hj;rw[hk]at hp1;rw[hk']at hq1;refine hw.inj k k' y y' p q hy hy' ?_ hp1 hq1
   rcases Nat.lt_or_gt_of_ne hne with hlt|hlt
   ·have:=(hinc i k hk).2 j k' hlt hk';omega
   ·have:=(hinc j k' hk').2 i k hlt hk;omega
def bn5 :Nat->Nat->List Nat->Bool
 |_,0,_=>true
 |k,n+1,j::l=>Nat.beq k j&&bn5 (k+1) n l
 |_,_+1,[]=>false
theorem aB8 :∀ {n k:Nat} {l:List Nat},bn5 k n l=true-> ∀i,i<n->l[i]? =some (k+i)
 |0,_,_,_,i,hi=>absurd hi (Nat.not_lt_zero i)
 |n+1,k,[],h,_,_=>by cases h
 |n+1,k,j::l,h,i,hi=>by
  simp only[bn5,bI0]at h;have h1:=bI4 h.1;cases i with
  |zero=>simp[h1]
  |succ i=>
   have:=aB8 h.2 i (by omega)
   simp only[bJ0,this]
   congr 1
   omega
section
variable {P :Program}{dr:F9}{call:d8}{nt n0 m:Nat}
theorem Q4.weak {cs:List Code}{tm tm':T Value}{hp hp':Hp}{e:Exit}{l:List Nat}{s:St}(h:Q4 P nt n0 cs tm hp e tm' hp')(k:aX0 l nt tm' hp' s=true)(hp0:bn5 0 n0 l=true):Q4 P nt n0 cs tm hp e s.tm s.hp:=by
 intro B w0 σ a w ht hw hd;refine ae8 ?_ cs (h B w0 σ a w ht hw hd)
 rintro _ a' w' ⟨rfl,hd',σ',hl,ht',hw'⟩
 obtain⟨σ1,rfl,h1,h2⟩:=aX1 k ht' hw';refine⟨rfl,hd',_,fun i hi=>?_,h1,h2⟩
 rw[<-hl i hi];show(l[i]?).bind σ'=σ' i;rw[aB8 hp0 i hi,bL1];rfl
theorem ac5.weak {c:Code}{tm tm':T Value}{hp hp':Hp}{e:Exit}{l:List Nat}{s:St}(h:ac5 P nt n0 m c tm hp e tm' hp')(k:aX0 l nt tm' hp' s=true)(hp0:bn5 0 n0 l=true):ac5 P nt n0 m c tm hp e s.tm s.hp:=by
 intro B w0 σ a w ht hw hd;refine V1 ?_ (h B w0 σ a w ht hw hd)
 rintro _ a' w' ⟨rfl,hd',σ',hl,ht',hw'⟩
 obtain⟨σ1,rfl,h1,h2⟩:=aX1 k ht' hw';refine⟨rfl,hd',_,fun i hi=>?_,h1,h2⟩
 rw[<-hl i hi];show(l[i]?).bind σ'=σ' i;rw[aB8 hp0 i hi,bL1];rfl
def bc0 (P:Program)(dr:F9)(call:d8)(nt n0 m:Nat)(cs:List Code)(s:St)(l:List Nat)(s':St):Bool:=
 bn5 0 n0 l&&Nat.ble n0 s.bls.length&&match aE9 P dr call nt m cs s.tm s.hp with
 |some (.mk .normal tm hp [])=>aX0 l nt tm hp s'
 |_=>false
theorem bw5 (hcall:E7 P call)(hdr:X9 P dr){cs:List Code}{s s':St}{l:List Nat}(h:bc0 P dr call nt n0 m cs s l s'=true):Q4 P nt n0 cs s.tm s.hp .normal s'.tm s'.hp:=by
 unfold bc0 at h;simp only[bI0]at h;obtain⟨⟨h1,h2⟩,h⟩:=h;split at h
 ·rename_i tm hp hx
  exact(ak7 hcall hdr cs hx (bI3 h2)).weak h h1
 ·cases h
def bg8 (P:Program)(dr:F9)(call:d8)(nt m:Nat)(cs:List Code)(s:St)(rs:List ResultVar):Bool:=
 match aE9 P dr call nt m cs s.tm s.hp with
 |some (.mk .normal tm hp [])=>(match F7 P tm hp rs with|some [.bool b]=>b|_=>false)
 |some (.mk .ret tm hp [])=>(match F7 P tm hp rs with|some [.bool b]=>b|_=>false)
 |_=>false
end
def L6 (P:Program)(f:FuncId):List Code:=match(ad1 P f).body with|some c=>aA1 c|none=>[]
def ntOf (P:Program)(f:FuncId):Nat:=(ad1 P f).ntmps
def aC0 (P:Program)(f:FuncId):List ResultVar:=(ad1 P f).results.toList
def part (P:Program)(f k n:Nat):List Code:=((L6 P f).drop k).take n
def St.none :St:=⟨[],[]⟩
theorem Q4.start {P:Program}{nt n0 f:Nat}{tm:T Value}{hp:Hp}:Q4 P nt n0 ((L6 P f).take 0) tm hp .normal tm hp:=by
 rw[List.take_zero];exact fun B w0 σ a w ht hw hd=>⟨rfl,hd,σ,fun _ _=>rfl,ht,hw⟩
theorem Q4.step {P : Program} {nt n0 f k : Nat} {tm tm1 tm2 : T Value} {hp hp1 hp2 : Hp} {e : Exit} (h : Q4 P nt n0 ((L6 P f).take k) tm hp .normal tm1 hp1) (n : Nat) (h2 : Q4 P nt n0 (part P f k n) tm1 hp1 e tm2 hp2) :
  Q4 P nt n0 ((L6 P f).take (k+n)) tm hp e tm2 hp2:=by
 rw[List.take_add];exact h.append h2
theorem ap8 {P : Program} (hm : P.follows .mixedOrders = true) {call : d8} (hcall : E7 P call) {f k m nt : Nat} {s : St} (hs : (P.funcs[f]?).isSome = true) (hb : (ad1 P f).body.isSome = true) (hn : ntOf P f = nt)
  (h1:Q4 P nt 0 ((L6 P f).take k) St.none.tm St.none.hp .normal s.tm s.hp) (h2:bg8 P (u7 P) call nt m ((L6 P f).drop k) s (aC0 P f)=true) (w:World):
  Calls P f #[] w fun e w'=>e= .returned (.bool true)/\Below w.heap.size w w':=by
 have hfn:P.funcs[f]? =some (ad1 P f):=by
  unfold ad1;cases h:P.funcs[f]? with
  |none=>rw[h]at hs;cases hs
  |some fn=>rfl
 generalize hF:ad1 P f=fn at hfn hb;cases hc:fn.body with
 |none=>rw[hc]at hb;cases hb
 | some c =>
  have hparts:L6 P f=aA1 c:=by unfold L6;rw[hF,hc]
  have hnt:ntOf P f=fn.ntmps:=by unfold ntOf;rw[hF]
  have hrs:aC0 P f=fn.results.toList:=by unfold aC0;rw[hF]
  rw [hnt] at hn;subst hn;rw [hparts] at h1;rw [hparts,hrs] at h2;have key : ∀ e tm hp vs, (e = .normal ∨ e = .ret) → aE9 P (u7 P) call fn.ntmps m ((aA1 c).drop k) s.tm s.hp = some (.mk e tm hp []) → F7 P tm hp fn.results.toList = some vs → vs = [.bool true] →
    Calls P f #[] w fun e w'=>e= .returned (.bool true)/\Below w.heap.size w w':=by
   rintro e tm hp vs he hx hr rfl
   have hall:=h1.append (ak7 hcall (as5 hm) _ hx (bR4 _));rw[bR3]at hall;have h0:TR (fun _=>Option.none) fn.ntmps St.none.tm (#[]++Array.replicate fn.ntmps undef):=by
    have:=TR.start (VRL.nil (fun _=>Option.none)) fn.ntmps
    simpa [St.tm,St.none,fill]using this
   refine callsIn_wide.1 (callsIn_of_wp (n:=0) hfn hc trivial (bS5 (F:=RF none) (be2 (fun l a w h=>by rcases he with rfl|rfl<;>cases h.1) (hall (BS.below w) w (fun _=>Option.none) {tmps:= #[]++Array.replicate fn.ntmps undef,defers:=[]} w h0 (HR.start w) rfl)) fun e' a' w' hq=>?_))
   obtain⟨rfl,hd,σ',_,ht,hw'⟩:=hq;obtain⟨us,hu1,hu2⟩:=M5 ht hw' hr;obtain⟨u,us',rfl,hu,hu3⟩:=hu1.uncons;rw[hu3.unnil]at hu2;cases hu;have hres:(results fn a'.tmps).run P w'= .ok (.bool true) w':=by
    have he:results fn a'.tmps=(do let vs<-fn.results.mapM (aJ9 a'.tmps);pure (if h:vs.size=1 then vs[0]else .tuple vs):Sem Value):=rfl
    rw[he,Array.mapM_eq_mapM_toList,bK8,Sem.run_map,hu2];rfl
   rcases he with rfl|rfl
   ·exact⟨hd,_,hres,rfl,hw'.toBelow⟩
   ·exact⟨hd,_,hres,rfl,hw'.toBelow⟩
  unfold bg8 at h2;split at h2
  ·rename_i tm hp hx
   split at h2
   ·rename_i b hr
    exact key .normal tm hp _ (.inl rfl) hx hr (by rw[h2])
   ·cases h2
  ·rename_i tm hp hx
   split at h2
   ·rename_i b hr
    exact key .ret tm hp _ (.inr rfl) hx hr (by rw[h2])
   ·cases h2
  ·cases h2
theorem aw4 {P : Program} (hm : P.follows .mixedOrders = true) {ov : FuncId → Option TypeId} (hov : ∀ g t, ov g = some t → ai7 P g t) {f k n m nt : Nat} {s : St} (hs : (P.funcs[f]?).isSome = true) (hb : (ad1 P f).body.isSome = true) (hn : ntOf P f = nt)
  (h1:Q4 P nt 0 ((L6 P f).take k) St.none.tm St.none.hp .normal s.tm s.hp) (h2:bg8 P (u7 P) (exec P ov n) nt m ((L6 P f).drop k) s (aC0 P f)=true) (w:World):
  Calls P f #[] w fun e w'=>e= .returned (.bool true)/\Below w.heap.size w w':=
 ap8 hm (aM1 hm hov n) hs hb hn h1 h2 w
end Go.Xe
end PartXm19
