/- The executor, parts S, 13, 14, 15, D, 16, 17, 18, 19.
  Conditions: none. -/
import Derived.Test.YtcjhhnoaoldcmaaXm2
import Derived.OrdersIn
import Derived.ChangeSame
set_option linter.unusedSimpArgs false
set_option linter.unusedVariables false
noncomputable section PartXmS
namespace Go.Xe
open Go.RowKit
def clEq (v1 v2:List Value):Bool:= @decide (v1=v2) (Classical.propDecidable _)
theorem bz1 {v1 v2:List Value}(h:clEq v1 v2=true):v1=v2:= @bN3 _ (Classical.propDecidable _) h
theorem bj5 (v:List Value):clEq v v=true:= @decide_eq_true _ (Classical.propDecidable _) rfl
def noR :Value->Bool
 | .bool _| .int _ _| .complex _ _ _| .string _| .slice _ _ _| .pointer none| .pointer (some ⟨_,_,none⟩)| .map _=>true
 |_=>false
theorem VR.noR {σ σ':Sg}(hs:∀i p,σ i=some p->σ' i=some p){v u:Value}(h:VR σ v u)(hn:noR v=true):VR σ' v u:=by
 cases h<;>first
  |exact .bool _|exact .int _ _|exact .string _|exact .nilp|exact .nils _ _|exact .vague _ _|exact .nilm
  | (rename_i f lo hi n h1 h2;exact .ival f lo hi n h1 h2)
  | (rename_i i o p h;exact .ptr i o p (hs _ _ h))
  | (rename_i i o p l c c' h hc hl;exact .slice i o p l c c' (hs _ _ h) hc hl)
  | (rename_i i p h;exact .map i p (hs _ _ h))
  |cases hn
def aO6 (R : List Value → Hp → Option (Value × Hp)) (args : List Value) (hp : Hp) : Option (Value × Hp) :=
 match args with
 | [.slice (some ⟨i, o0, none⟩) l c, x, .slice (some ⟨j, o, none⟩) m cm] =>
  bif Nat.ble unk c && Nat.beq (B5 c) 0 && !(Nat.beq i j) && Nat.ble (l + m) 67108864 then
   match hp.m.get i,hp.m.get j with
   | some bi, some bj =>
    match R [.slice (some ⟨i, o0, none⟩) l (d8 (l + m) 0), x, .slice (some ⟨j, o, none⟩) m cm] ⟨(T.set .e i (some bi)).set j (some bj), hp.nx⟩,
      R [.slice (some ⟨i,o0,none⟩) l (d8 l (l+m)),x,.slice (some ⟨j,o,none⟩) m cm] ⟨(T.set .e i (some bi)).set j (some bj),hp.nx⟩with
    | some (.slice (some ⟨a, oa, none⟩) la ca, ha), some (.slice (some ⟨b, ob, none⟩) lb cb, hb) =>
     bif Nat.beq la lb && Nat.ble unk ca && Nat.ble unk cb then
      match ha.m.get a,hb.m.get b with
      | some (.cells c1 k1 e1 z1), some (.cells c2 k2 e2 z2) =>
       bif Nat.ble (oa + la * z1) k1 && Nat.ble (ob + la * z1) k2 && Nat.beq e1 e2 && Nat.beq z1 z2 then
        match l9 c1 oa (la*z1),l9 c2 ob (la*z1)with
        | some v1, some v2 => bif (T8 (veq 100) v1 v2 || clEq v1 v2) && v1.all noR then
          some (.slice (some ⟨Nat.max ha.nx hb.nx,0,none⟩) la (d8 la 0),
           ⟨((hp.m.set i none).set j none).set (Nat.max ha.nx hb.nx) (some (.cells (fill .e 0 v1) (la*z1) e1 z1)),Nat.max ha.nx hb.nx+1⟩)
         else none
        |_,_=>none
       else none
      |_,_=>none
     else none
    |_,_=>none
   |_,_=>none
  else none
 |_=>none
def G3 (P : Program) (runD : FuncId → List Value → Hp → Option (Value × Hp)) : List Df → Hp → Option Hp
 | [],hp=>some hp
 | .mark r::ds,hp=>match hp.m.get r with
  |some .dfr=>G3 P runD ds {hp with m:=hp.m.set r none}
  |_=>none
 | .call g args cap :: ds, hp => match P.funcs[g]? with
  | some fn => bif ao8 fn then
    match runD g (args++cap) hp with
    |some (_,hp')=>G3 P runD ds hp'
    |none=>none
   else none
  |none=>none
def aC2 (P:Program)(fn:Func)(runD:FuncId->List Value->Hp->Option (Value×Hp))(tm:T Value)(hp:Hp)(ds:List Df):Option (Value×Hp):=
 match G3 P runD ds hp with
 |some hp'=>match E4 P tm hp' fn.results.toList with
  |some vs=>some (ae4 vs,hp')
  |none=>none
 |none=>none
def W3 (P:Program)(dr:E5)(call:f9)(runD:FuncId->List Value->Hp->Option (Value×Hp))(n:Nat)(f:FuncId)(args:List Value)(hp:Hp):Option (Value×Hp):=
 match P.funcs[f]? with
 |some fn=>match fn.body with
  |some c=>match i6 P dr call (args.length+(fn.ntmps-args.length)) none n c (fill .e 0 args) hp []with
   |some (.mk .normal tm' hp' ds)=>aC2 P fn runD tm' hp' ds
   |some (.mk .ret tm' hp' ds)=>aC2 P fn runD tm' hp' ds
   |_=>none
  |none=>none
 |none=>none
def Z6 (P:Program)(dr:E5)(call:f9)(n:Nat)(f:FuncId)(args:List Value)(hp:Hp):Option (Value×Hp):=
 match P.funcs[f]? with
 |some fn=>match fn.body with
  |some c=>match i6 P dr call (args.length+(fn.ntmps-args.length)) none n c (fill .e 0 args) hp []with
   |some (.mk .normal tm' hp' [])=>aC2 P fn (fun _ _ _=>none) tm' hp' []
   |some (.mk .ret tm' hp' [])=>aC2 P fn (fun _ _ _=>none) tm' hp' []
   |_=>none
  |none=>none
 |none=>none
def az5 (tm:T Value):List Tmp->List Value->T Value
 |t::ts,v::vs=>az5 (tm.set t (some v)) ts vs
 |_,_=>tm
def aq9 (n:Nat):List Tmp->Bool
 | []=>true
 |t::ts=>Nat.blt t n&&aq9 n ts
def aD4 (P:Program)(dr:E5)(call:f9)(m:Nat)(i:Nat)(args:List Value)(hp:Hp):Option (Value×Hp):=
 match hp.m.get i with
 |some (.loop .ready _ nt tms ps assign body _)=>
  bif Nat.beq ps.toList.length args.length&&aq9 nt ps.toList then
   match i6 P dr call nt (some i) m assign (az5 tms ps.toList args) hp []with
   |some (.mk .normal tm1 hp1 ds1)=>match hp1.m.get i with
    |some (.loop .ready p1 n1 t1 q1 a1 b1 d1)=>
     match i6 P dr call nt (some i) m body tm1 {hp1 with m:=hp1.m.set i (some (.loop .busy p1 n1 t1 q1 a1 b1 d1))} ds1 with
     |some (.mk e _ hp2 _)=>match hp2.m.get i with
      |some (.loop _ _ n2 t2 q2 a2 b2 d2)=>match e with
       | .normal=>some (.bool true,{hp2 with m:=hp2.m.set i (some (.loop .ready none n2 t2 q2 a2 b2 d2))})
       | .ret=>some (.bool false,{hp2 with m:=hp2.m.set i (some (.loop .done (some .ret) n2 t2 q2 a2 b2 d2))})
       | .exit id=>some (.bool false,{hp2 with m:=hp2.m.set i (some (.loop .done (some (.exit id)) n2 t2 q2 a2 b2 d2))})
       |_=>none
      |_=>none
     |none=>none
    |_=>none
   |_=>none
  else none
 |_=>none
def at6 (R:List Value->Hp->Option (Value×Hp))(args:List Value)(hp:Hp):Option (Value×Hp):=
 match R args hp with
 |some r=>some r
 |none=>aO6 R args hp
def V3 (P:Program)(dr:E5)(ov:FuncId->Option TypeId):Nat->f9
 |0=>⟨fun _ _ _=>none,ov,fun _ _ _=>none⟩
 |n+1=>⟨fun f args hp=>bif isT (ov f)&&args.isEmpty then some (.bool true,hp)else at6 (W3 P dr (V3 P dr ov n) (Z6 P dr (V3 P dr ov n) n) n f) args hp,ov,aD4 P dr (V3 P dr ov n) n⟩
section
variable {P :Program}{B:BS}{w0:World}
def bq2 (P:Program)(f:FuncId)(R:List Value->Hp->Option (Value×Hp)):Prop:=
 ∀args hp v hp',R args hp=some (v,hp')-> ∀B w0 σ w args',VRL σ args args'->HR B w0 σ hp w->
  Calls P f args'.toArray w (fun e w'=>∃σ' u,e= .returned u/\Sg.gr hp.nx hp'.nx σ σ'/\VR σ' v u/\HR B w0 σ' hp' w')
def aY4 (P:Program)(f:FuncId)(R:List Value->Hp->Option (Value×Hp)):Prop:=
 ∀args hp v hp',R args hp=some (v,hp')-> ∀B w0 σ w args',VRL σ args args'->HR B w0 σ hp w-> ∀u,
  CallsDIn Fence.wide 0 P f args'.toArray u w (fun e u' w'=>u'=u/\ ∃σ' x,e= .returned x/\Sg.gr hp.nx hp'.nx σ σ'/\VR σ' v x/\HR B w0 σ' hp' w')
theorem HR.touch {σ:Sg}{hp:Hp}{w:World}(h:HR B w0 σ hp w){b:Nat}{o:Obj}(hB:¬B b)(hl:∀i x r q,hp.m.get i=some x->Ix x r->σ.f i r=some q->q.blk≠b):HR B w0 σ hp {w with heap:=w.heap.setIfInBounds b o}:=by
 refine⟨h.os,h.tape,h.output,by simpa using h.size,h.old,fun k hk=>?_,h.frs,fun i x r hg hx=>?_,h.ij,h.rz⟩
 ·have hne:b≠k:=fun e=>hB (by rw[e];exact hk)
  simp[bP6 hne,h.kept k hk]
 ·obtain⟨p,o',h1,h2,h3,h4⟩:=h.liv i x r hg hx
  refine⟨p,o',h1,h2,?_,h4⟩;have hne:b≠p.blk:=(hl i x r p hg hx h1).symm;simp[bP6 hne,h3]
theorem as2 {fn:Func}{tmps:Array Value}{vs us:List Value}{w:World}{σ:Sg}(h1:VRL σ vs us)(h2:(fn.results.toList.mapM (aI2 tmps):Sem (List Value)).run P w= .ok us w):(results fn tmps).run P w= .ok (ae4 us) w/\VR σ (ae4 vs) (ae4 us):=by
 constructor
 ·have he:results fn tmps=(do let vs<-fn.results.mapM (aI2 tmps);pure (if h:vs.size=1 then vs[0]else .tuple vs):Sem Value):=rfl
  rw[he,Array.mapM_eq_mapM_toList,bI3,Sem.run_map,h2];simp only[bH9,bI8]
  congr 1
  cases us with
  |nil=>rfl
  |cons x us=>cases us<;>rfl
 ·cases vs with
  |nil=>rw[h1.unnil];exact VRL.to_tuple (VRL.nil σ)
  |cons x vs=>
   obtain⟨y,us',rfl,hxy,hrest⟩:=h1.uncons;cases vs with
   |nil=>rw[hrest.unnil];exact hxy
   |cons x2 vs=>
    obtain⟨y2,us2,rfl,_,_⟩:=hrest.uncons;exact h1.to_tuple
theorem aO0 {runD : FuncId → List Value → Hp → Option (Value × Hp)} (hD : ∀ g, aY4 P g (runD g)) {fn : Func} {tmps : Array Value} {R : Ending → World → Prop} : ∀ (ds : List Df) (D : List Deferred) (hp hp' : Hp) (σ : Sg) (w : World),
  G3 P runD ds hp=some hp'->DsR σ ds D->HR B w0 σ hp w->(∀σ' w',Sg.gr hp.nx hp'.nx σ σ'->HR B w0 σ' hp' w'->LeavesIn Fence.wide 0 P fn tmps R [] .returning w')->LeavesInM Fence.wide 0 P fn tmps R D .returning w:=by
 intro ds
 induction ds with
 |nil=>
  intro D hp hp' σ w h hd hw k;simp only[G3,bF4]at h;subst h;cases D with
  |nil=>exact k σ w (Sg.gr_refl _ σ) hw
  |cons d D=>exact hd.elim
 |cons x ds ih=>
  intro D hp hp' σ w h hd hw k;cases D with
  |nil=>cases x<;>exact hd.elim
  |cons d D=>
   obtain⟨hx,hd⟩:=hd;cases x with
   |mark r=>
    simp only[G3]at h;split at h
    ·rename_i hg
     obtain⟨p,hp1,htar⟩:=hx;obtain⟨p',o,q1,q2,q3,q4⟩:=hw.live r _ hg;have:p'=p:=bI0 (q1.symm.trans hp1);subst this;have q4:o= .deferred (some []):=q4;subst q4;have hw2:=(HR.drop hw r).touch (o:= .deferred none) q2 (fun i x rr q hi hx hq e=>by
      have hi:(hp.m.set r none).get i=some x:=hi;rw[T.get_set]at hi
      by_cases hir:i=r
      ·rw[bH6 hir]at hi;cases hi
      ·rw[bH4 hir]at hi
       exact hw.ij i r x _ rr 0 q p' hi hg hx rfl (.inl hir) hq q1 e)
     exact⟨by simp,.inl ⟨p'.blk,_,htar,run_takeDeferred q3,ih D _ hp' σ _ h hd hw2 k⟩⟩
    ·cases h
   |call g args cap=>
    simp only[G3]at h;obtain⟨cap',htar,hva,hvc⟩:=hx;split at h
    ·rename_i fg hfg
     cases ho:ao8 fg with
     |false=>rw[ho]at h;cases h
     |true=>
      rw[ho,bH1]at h;split at h
      ·rename_i v hp1 hr
       refine⟨by simp,.inr ⟨fun h=>(by cases h),.func g,cap',g,(d.args.toList++cap'.toList).toArray,htar,?_,fun _ _=>trivial,?_⟩⟩
       ·rw[htar]
        have:(d.args.toList++cap'.toList).toArray=d.args++cap':=by apply bN5;simp
        rw[this];exact Y9 hfg ho w
       ·refine CallsDIn.mono (hD g (args++cap) hp v hp1 hr B w0 σ w _ (hva.append hvc) hw .returning) fun e u' w' he=>?_
        obtain⟨rfl,σ1,x,rfl,gr,_,hw1⟩:=he;exact ih D hp1 hp' σ1 w' h (hd.mono gr.le) hw1 fun σ' w'' g' hw'=>k σ' w'' (Sg.gr_trans gr g') hw'
      ·cases h
    ·cases h
theorem aW2 {dr : E5} (hdr : X2 P dr) {call : f9} (ih : D7 P call) {runD : FuncId → List Value → Hp → Option (Value × Hp)} (hD : ∀ g, aY4 P g (runD g)) (n : Nat) (g : FuncId) : bq2 P g (W3 P dr call runD n g) := by
 intro args hp v hp' h B w0 σ w args' ha hw;simp only[W3]at h;split at h
 ·rename_i fn hfn
  split at h
  ·rename_i c hc
   have fin : ∀ e tm1 hp1 ds1, (e = .normal ∨ e = .ret) → i6 P dr call (args.length + (fn.ntmps - args.length)) none n c (fill .e 0 args) hp [] = some (.mk e tm1 hp1 ds1) →
     aC2 P fn runD tm1 hp1 ds1=some (v,hp')->
     Calls P g args'.toArray w (fun e w'=>∃σ' u,e= .returned u/\Sg.gr hp.nx hp'.nx σ σ'/\VR σ' v u/\HR B w0 σ' hp' w'):=by
    intro e tm1 hp1 ds1 he hx hr;unfold aC2 at hr;split at hr
    ·rename_i hp2 hlv
     split at hr
     ·rename_i vs hvs
      simp only[bF4,bF6]at hr;obtain⟨rfl,rfl⟩:=hr;refine callsIn_wide.1 (callsIn_of_wp_marks (n:=0) hfn hc trivial (bQ3 ((N6 (B:=B) (w0:=w0) ih hdr n).1 c _ hp [] e tm1 hp1 ds1 σ {tmps:=args'.toArray++Array.replicate (fn.ntmps-args'.toArray.size) undef,defers:=[]} w none hx (TR.start ha fn.ntmps) hw trivial trivial) fun e' a' w' hq=>?_))
      obtain⟨rfl,σ',hle,hd,ht,hw'⟩:=hq;have hL:LeavesInM Fence.wide 0 P fn a'.tmps (fun e w'=>∃σ' u,e= .returned u/\Sg.gr hp.nx hp2.nx σ σ'/\VR σ' (ae4 vs) u/\HR B w0 σ' hp2 w') a'.defers .returning w':=
       aO0 hD ds1 a'.defers hp1 hp2 σ' w' hlv hd hw' fun σ2 w2 g2 hw2=>by
        obtain⟨us,hu1,hu2⟩:=L9 (ht.mono g2.le) hw2 hvs;obtain⟨r1,r2⟩:=as2 hu1 hu2;exact⟨_,r1,σ2,_,rfl,Sg.gr_trans hle g2,r2,hw2⟩
      rcases he with rfl|rfl
      ·exact hL
      ·exact hL
     ·cases hr
    ·cases hr
   split at h
   ·rename_i tm1 hp1 ds1 hx
    exact fin .normal tm1 hp1 ds1 (.inl rfl) hx h
   ·rename_i tm1 hp1 ds1 hx
    exact fin .ret tm1 hp1 ds1 (.inr rfl) hx h
   ·cases h
  ·cases h
 ·cases h
theorem aN3 {dr : E5} (hdr : X2 P dr) {call : f9} (ih : D7 P call) (n : Nat) (g : FuncId) : aY4 P g (Z6 P dr call n g) := by
 intro args hp v hp' h B w0 σ w args' ha hw u0;simp only[Z6]at h;split at h
 ·rename_i fn hfn
  split at h
  ·rename_i c hc
   have fin : ∀ e tm1 hp1, (e = .normal ∨ e = .ret) → i6 P dr call (args.length + (fn.ntmps - args.length)) none n c (fill .e 0 args) hp [] = some (.mk e tm1 hp1 []) →
     aC2 P fn (fun _ _ _=>none) tm1 hp1 []=some (v,hp')->
     CallsDIn Fence.wide 0 P g args'.toArray u0 w (fun e u' w'=>u'=u0/\ ∃σ' u,e= .returned u/\Sg.gr hp.nx hp'.nx σ σ'/\VR σ' v u/\HR B w0 σ' hp' w'):=by
    intro e tm1 hp1 he hx hr;unfold aC2 at hr;simp only[G3]at hr;split at hr
    ·rename_i vs hvs
     simp only[bF4,bF6]at hr;obtain⟨rfl,rfl⟩:=hr;refine callsDIn_of_wp (R:=fun e w'=>∃σ' u,e= .returned u/\Sg.gr hp.nx hp1.nx σ σ'/\VR σ' (ae4 vs) u/\HR B w0 σ' hp1 w') (n:=0) hfn hc trivial
      (bQ3 ((N6 (B:=B) (w0:=w0) ih hdr n).1 c _ hp [] e tm1 hp1 [] σ {tmps:=args'.toArray++Array.replicate (fn.ntmps-args'.toArray.size) undef,defers:=[]} w none hx (TR.start ha fn.ntmps) hw trivial trivial) fun e' a' w' hq=>?_)
     obtain⟨rfl,σ',hle,hd,ht,hw'⟩:=hq;obtain⟨us,hu1,hu2⟩:=L9 ht hw' hvs;obtain⟨r1,r2⟩:=as2 hu1 hu2;have hd:a'.defers=[]:=by
      cases hD:a'.defers with
      |nil=>rfl
      |cons d D=>rw[hD]at hd;exact hd.elim
     rcases he with rfl|rfl
     ·exact⟨hd,_,r1,σ',_,rfl,hle,r2,hw'⟩
     ·exact⟨hd,_,r1,σ',_,rfl,hle,r2,hw'⟩
    ·cases hr
   split at h
   ·rename_i tm1 hp1 hx
    exact fin .normal tm1 hp1 (.inl rfl) hx h
   ·rename_i tm1 hp1 hx
    exact fin .ret tm1 hp1 (.inr rfl) hx h
   ·cases h
  ·cases h
 ·cases h
theorem aI1 {σ : Sg} {nt : Nat} : ∀ (ps : List Tmp) (xs ys : List Value) (tm : T Value) (tmps : Array Value), aq9 nt ps = true → ps.length = xs.length → VRL σ xs ys → TR σ nt tm tmps →
  TR σ nt (az5 tm ps xs) ((ps.zip ys).foldl (fun tmps (x:Tmp×Value)=>tmps.setIfInBounds x.1 x.2) tmps)
 | [],xs,ys,tm,tmps,_,_,_,h=>by cases xs<;>simpa [az5]using h
 |t::ts,[],ys,tm,tmps,_,hl,_,_=>by simp at hl
 |t::ts,x::xs,ys,tm,tmps,ha,hl,hv,h=>by
  obtain⟨y,ys',rfl,hxy,hr⟩:=hv.uncons;simp only[aq9,bF5]at ha;exact aI1 ts xs ys' _ _ ha.2 (by simpa using hl) hr (h.put (bF8 ha.1) hxy)
theorem ao4 {σ : Sg} {hp : Hp} {w : World} (hw : HR B w0 σ hp w) {i : Nat} {p : Pl} (hi : σ i = some p) {st : LoopState} {pend : Option Code} {nt : Nat} {tms : T Value} {ps : Array Tmp} {assign body : Code} {db : Nat}
  (hg:hp.m.get i=some (.loop st pend nt tms ps assign body db)) (jump:Option Code):
  ∃w',(Instr.endRound p.blk jump).run P w= .ok (.bool jump.isNone) w'/\HR B w0 σ {hp with m:=hp.m.set i (some (.loop (if jump.isNone then .ready else .done) jump nt tms ps assign body db))} w':=by
 obtain⟨p',o,q1,q2,q3,q4⟩:=hw.live i _ hg;have:p'=p:=bI0 (q1.symm.trans hi);subst this;obtain⟨rec,rfl,k1,k2,k3,k4,k5,k6,k7⟩:=q4;exact⟨_,run_endRound jump q3,HR.setO hw hg q1 ⟨_,rfl,rfl,rfl,k3,k4,k5,k6,k7⟩⟩
theorem aO2 {dr : E5} (hdr : X2 P dr) {call : f9} (ih : D7 P call) (m : Nat) : ∀ i args hp v hp', aD4 P dr call m i args hp = some (v, hp') → ∀ B w0 σ w args' p, σ i = some p → VRL σ args args' → HR B w0 σ hp w →
  ∃r,w.heap[p.blk]? =some (.loop r)/\args'.length=r.params.size/\
   RoundIn Fence.wide 0 P p.blk r.fn ((r.params.zip args'.toArray).foldl (fun tmps (t,a)=>tmps.setIfInBounds t a) r.tmps) r.assign r.body w (fun e w'=>∃σ' u,e= .returned u/\Sg.gr hp.nx hp'.nx σ σ'/\VR σ' v u/\HR B w0 σ' hp' w'):=by
 intro i args hp v hp' h B w0 σ w args' p hi ha hw;unfold aD4 at h;split at h
 ·rename_i pend nt tms ps assign body db hg
  cases hb:Nat.beq ps.toList.length args.length&&aq9 nt ps.toList with
  |false=>rw[hb]at h;cases h
  |true=>
   rw[hb,bH1]at h;simp only[bF5]at hb;have hlen:=bF9 hb.1;obtain⟨p',o,q1,q2,q3,q4⟩:=hw.live i _ hg;have:p'=p:=bI0 (q1.symm.trans hi);subst this;obtain⟨rec,rfl,k1,k2,rfl,rfl,rfl,k6,k7⟩:=q4;refine⟨rec,q3,by rw[<-ha.1,<-hlen];simp,?_⟩
   have hfold:(rec.params.zip args'.toArray).foldl (fun tmps (x:Tmp×Value)=>tmps.setIfInBounds x.1 x.2) rec.tmps=(rec.params.toList.zip args').foldl (fun tmps (x:Tmp×Value)=>tmps.setIfInBounds x.1 x.2) rec.tmps:=by
    rw[<-Array.foldl_toList,Array.toList_zip]
   have ht0:=aI1 rec.params.toList args args' tms rec.tmps hb.2 hlen ha ⟨k6.1,k6.2⟩;rw[<-hfold]at ht0;split at h
   ·rename_i tm1 hp1 ds1 hx
    refine roundIn_of_wpIn (F:=Fence.wide) trivial (bQ3 ((N6 (B:=B) (w0:=w0) ih hdr m).1 rec.assign _ hp [] .normal tm1 hp1 ds1 σ {tmps:=_,defers:=[]} w (some p'.blk) hx ht0 hw trivial ⟨p',hi,rfl⟩) fun e1 a1 w1 hq1=>?_)
    obtain⟨rfl,σ1,gr1,hd1,ht1,hw1⟩:=hq1;have hi1:=gr1.le _ _ hi;split at h
    ·rename_i p1 n1 t1 r1 as1 bo1 db1 hg1
     obtain⟨p2,o2,u1,u2,u3,u4⟩:=hw1.live i _ hg1;have:p2=p':=bI0 (u1.symm.trans hi1);subst this;obtain⟨rec1,rfl,m1,m2,m3,m4,m5,m6,m7⟩:=u4;refine⟨_,run_beginRound u3 m1,?_⟩;have hw2:=HR.setO (b':= .loop .busy p1 n1 t1 r1 as1 bo1 db1) hw1 hg1 hi1 (o:= .loop {rec1 with state:= .busy}) ⟨_,rfl,rfl,m2,m3,m4,m5,m6,m7⟩
     split at h
     ·rename_i e tm2 hp2 ds2 hx2
      refine bQ3 ((N6 (B:=B) (w0:=w0) ih hdr m).1 rec.body _ _ ds1 e tm2 hp2 ds2 σ1 a1 _ (some p2.blk) hx2 ht1 hw2 hd1 ⟨p2,hi1,rfl⟩) fun e2 a2 w2 hq2=>?_
      obtain⟨rfl,σ2,gr2,_,_,hw3⟩:=hq2;have hi2:=gr2.le _ _ hi1;have gr:Sg.gr hp.nx hp2.nx σ σ2:=Sg.gr_trans gr1 gr2;split at h
      ·rename_i st3 pend3 n3 t3 r3 as3 bo3 db3 hg3
       split at h
       ·simp only[bF4,bF6]at h
        obtain⟨rfl,rfl⟩:=h;obtain⟨w3,s1,s2⟩:=ao4 (P:=P) hw3 hi2 hg3 none;exact⟨_,w3,s1,σ2,_,rfl,gr,.bool true,s2⟩
       ·simp only[bF4,bF6]at h
        obtain⟨rfl,rfl⟩:=h;obtain⟨w3,s1,s2⟩:=ao4 (P:=P) hw3 hi2 hg3 (some .ret);exact⟨_,w3,s1,σ2,_,rfl,gr,.bool false,s2⟩
       ·rename_i id
        simp only[bF4,bF6]at h;obtain⟨rfl,rfl⟩:=h;obtain⟨w3,s1,s2⟩:=ao4 (P:=P) hw3 hi2 hg3 (some (.exit id));exact⟨_,w3,s1,σ2,_,rfl,gr,.bool false,s2⟩
       ·cases h
      ·cases h
     ·cases h
    ·cases h
   ·cases h
 ·cases h
theorem aA6 {σ σa : Sg} {hp ha : Hp} {w w' : World} {i j a N : Nat} {bi bj : Blk} {la ca : Nat} {c1 c2 : T Value} {k k2 oa e z : Nat} {u : Value} (hw : HR B w0 σ hp w)
  (hgi:hp.m.get i=some bi) (hgj:hp.m.get j=some bj) (hr:HR (rest B σ ⟨(T.set .e i (some bi)).set j (some bj),hp.nx⟩ w) w σa ha w') (gr:Sg.gr hp.nx ha.nx σ σa)
  (hv:VR σa (.slice (some ⟨a,oa,none⟩) la ca) u) (hca:unk<=ca) (hga:ha.m.get a=some (.cells c2 k2 e z)) (hk:oa+k<=k2) (hc:∀x,x<k->c1.get x=c2.get (oa+x)) (hnr:∀x v,x<k->c1.get x=some v->noR v=true) (hN:ha.nx<=N):
  ∃σ',Sg.gr hp.nx (N+1) σ σ'/\VR σ' (.slice (some ⟨N,0,none⟩) la (d8 la 0)) u/\HR B w0 σ' ⟨((hp.m.set i none).set j none).set N (some (.cells c1 k e z)),N+1⟩ w':=by
 have small:∀x b,((T.set .e i (some bi)).set j (some bj):T Blk).get x=some b->(x=i\/x=j)/\hp.m.get x=some b:=by
  intro x b hg;rw[T.get_set]at hg
  by_cases hj:x=j
  ·rw[bH6 hj]at hg
   simp only[bF4]at hg;subst hg;subst hj;exact⟨.inr rfl,hgj⟩
  ·rw[bH4 hj,T.get_set]at hg
   by_cases hi:x=i
   ·rw[bH6 hi]at hg
    simp only[bF4]at hg;subst hg;subst hi;exact⟨.inl rfl,hgi⟩
   ·rw[bH4 hi]at hg
    simp[T.get_e]at hg
 have hws:HR B w0 σ ⟨(T.set .e i (some bi)).set j (some bj),hp.nx⟩ w:=hw.less (fun x b hg=>(small x b hg).2)
 have hb:=hws.back hr;cases hv with
 |slice _ _ p _ _ c' hpa hcc hll=>
 have hfn:σa N=none:=hb.fresh N hN
 let σb:Sg:=⟨fun i r=>if r=0 then σa.f i 0 else σ.f i r⟩
 have hb0:∀i,σb i=σa i:=fun i=>rfl
 have hbr:∀i r,r≠0->σb.f i r=σ.f i r:=fun i r h=>bH4 h
 have hleb:Sg.le σ σb:=fun i p {r} h=>by
  by_cases h0:r=0
  ·subst h0;exact(hb0 i).trans (gr.le _ _ h)
  ·exact(hbr i r h0).trans h
 have hle:=Sg.le_ext (σ:=σb) (i:=N) {p with dl:=p.dl+oa} ((hb0 N).trans hfn)
 have hnx:=gr.nx;obtain⟨p',o,l1,l2,l3,l4⟩:=hb.live a _ hga;have:p'=p:=bI0 (l1.symm.trans hpa);subst this;obtain⟨q',o',r1,r2,r3,_⟩:=hr.live a _ hga;have:q'=p':=bI0 (r1.symm.trans hpa);subst this;have old:∀x b,x≠N->((((hp.m.set i none).set j none).set N (some (.cells c1 k e z))):T Blk).get x=some b->hp.m.get x=some b/\ ∀r,Ix b r-> ∃q o,σ.f x r=some q/\NB B q.blk b/\w.heap[q.blk]? =some o/\BX σ q r b o/\rest B σ ⟨(T.set .e i (some bi)).set j (some bj),hp.nx⟩ w q.blk:=by
  intro x b hxN hg;rw[T.get_set,bH4 hxN,T.get_set]at hg
  by_cases hj:x=j
  ·rw[bH6 hj]at hg;cases hg
  ·rw[bH4 hj,T.get_set]at hg
   by_cases hi:x=i
   ·rw[bH6 hi]at hg;cases hg
   ·rw[bH4 hi]at hg
    refine⟨hg,fun r hx=>?_⟩
    obtain⟨q,o,h1,h2,h3,h4⟩:=hw.liv x b r hg hx;refine⟨q,o,h1,h2,h3,h4,.inr ⟨(bG9.1 h3).1,fun y b' s q' hy hys hq'=>?_⟩⟩
    obtain⟨hyij,hgy⟩:=small y b' hy;have hyx:y≠x:=by rintro rfl;rcases hyij with rfl|rfl<;>contradiction
    exact hw.ij y x _ _ s r q' q hgy hg hys hx (.inl hyx) hq' h1
 refine⟨σb.ext N {q' with dl:=q'.dl+oa},⟨Sg.le_trans hleb hle,fun x hx=>(Sg.ext_other _ _ _ (by omega)).trans ((hb0 x).trans (gr.low x hx)),by omega⟩,?_,?_⟩
 ·have := VR.slice (σ := σb.ext N { q' with dl := q'.dl + oa }) N 0 { q' with dl := q'.dl + oa } la (d8 la 0) c' (Sg.ext_same _ _ _) (.inr ⟨n9 _ _, by rw [F6 C9]; exact hll, .inl (E2 C9), by
   rcases hcc with⟨_,h⟩| ⟨_,_,_,h⟩
   ·omega
   ·exact h⟩) hll
  exact this
 ·refine ⟨hb.os, hb.tape, hb.output, hb.size, hb.old, hb.kept, fun x r hx => (Sg.ext_row _ _ _ (.inl (by have : N + 1 ≤ x := hx; omega))).trans (by
   have h1:N+1<=x:=hx
   by_cases h0:r=0
   ·subst h0;exact(hb0 x).trans (hb.frs x 0 (by omega))
   ·exact(hbr x r h0).trans (hw.frs x r (by have:=gr.nx;omega))),?_,?_,fun x b hg hrg=>?_⟩
  ·intro x b r hg hxr
   by_cases hx:x=N
   ·subst hx
    rw[T.get_set,bH6 rfl]at hg;simp only[bF4]at hg;subst hg;have hr0:r=0:=hxr;subst hr0;obtain⟨C,e1,e2,e3,e4,e5⟩:=l4;refine⟨{q' with dl:=q'.dl+oa},o,Sg.ext_same _ _ _,l2,l3,C,e1,e2,e3,(by show q'.dl+oa+k<=q'.siz;omega),fun y hy=>?_⟩
    obtain⟨v,u,a1,a2,a3⟩:=e5 (oa+y) (by omega)
    exact⟨v,u,(hc y hy).trans a1,(by show C[q'.dl+oa+y]? =some u;rw[bL4];exact a2),(a3.noR (fun i p h=>(hb0 i).trans h) (hnr y v hy ((hc y hy).trans a1))).mono hle⟩
   ·obtain⟨hg',ho⟩:=old x b hx hg
    obtain⟨q,o,h1,h2,h3,h4,h5⟩:=ho r hxr;exact⟨q,o,hle _ _ (hleb _ _ h1),h2,(hr.kept _ h5).trans h3,h4.mono (Sg.le_trans hleb hle)⟩
  ·intro x y b1 b2 r s p1 p2 hx hy hxr hys hne hp1 hp2
   have key : ∀ x b1 r p1, ((((hp.m.set i none).set j none).set N (some (.cells c1 k e z))) : T Blk).get x = some b1 → Ix b1 r → (σb.ext N { q' with dl := q'.dl + oa }).f x r = some p1 →
     (x=N/\r=0/\p1.blk=q'.blk)\/(x≠N/\hp.m.get x=some b1/\σ.f x r=some p1/\rest B σ ⟨(T.set .e i (some bi)).set j (some bj),hp.nx⟩ w p1.blk):=by
    intro x b1 r p1 hx hxr hp1
    by_cases hxN:x=N
    ·subst hxN
     rw[T.get_set,bH6 rfl,bF4]at hx;subst hx;have hr0:r=0:=hxr;subst hr0;exact .inl ⟨rfl,rfl,by rw[bI0 (hp1.symm.trans (Sg.ext_same _ _ _))]⟩
    ·obtain⟨hgx,ho⟩:=old x b1 hxN hx
     obtain⟨q,o,h1,_,_,_,h5⟩:=ho r hxr;have e1:p1=q:=bI0 (hp1.symm.trans (hle _ _ (hleb _ _ h1)));subst e1;exact .inr ⟨hxN,hgx,h1,h5⟩
   rcases key x b1 r p1 hx hxr hp1 with⟨e1,e2,e3⟩| ⟨e1,e2,e3,e4⟩<;>rcases key y b2 s p2 hy hys hp2 with⟨k1,k2,k3⟩| ⟨k1,k2,k3,k4⟩
   ·omega
   ·exact fun heq=>r2 (e3▸heq▸k4)
   ·exact fun heq=>r2 (k3▸heq▸e4)
   ·exact hw.ij x y _ _ r s _ _ e2 k2 hxr hys hne e3 k3
  ·have hxN : x ≠ N := by
    rintro rfl
    have hg:((((hp.m.set i none).set j none).set x (some (.cells c1 k e z))):T Blk).get x=some b:=hg;rw[T.get_set,bH6 rfl,bF4]at hg;subst hg;cases hrg
   obtain⟨hgx,_⟩:=old x b hxN hg;obtain⟨⟨q,hq⟩,hro⟩:=hw.rz x b hgx hrg;exact⟨⟨q,hle _ _ (hleb _ _ hq)⟩,fun r h0 hx=>by rw[Sg.ext_row _ _ _ (.inl hxN),hbr x r h0];exact hro r h0 hx⟩
theorem aO7 {f : FuncId} {R : List Value → Hp → Option (Value × Hp)} (hR : bq2 P f R) : bq2 P f (aO6 R) := by
 intro args hp v hp' h B w0 σ w args' hargs hw;unfold aO6 at h;split at h
 case h_2=>cases h
 rename_i i o0 l c x j o m cm;cases hb:Nat.ble unk c&&Nat.beq (B5 c) 0&& !(Nat.beq i j)&&Nat.ble (l+m) 67108864 with
 |false=>rw[hb]at h;cases h
 |true=>
 rw[hb,bH1]at h;simp only[bF5]at hb;obtain⟨⟨⟨b1,b2⟩,b3⟩,b4⟩:=hb;have b1:=bF8 b1;have b4:=bF8 b4;split at h
 case h_2=>cases h
 rename_i bi bj hgi hgj;split at h
 case h_2=>cases h
 rename_i a oa la ca ha b ob lb cb hbb hA hB;cases hb2:Nat.beq la lb&&Nat.ble unk ca&&Nat.ble unk cb with
 |false=>rw[hb2]at h;cases h
 |true=>
 rw[hb2,bH1]at h;simp only[bF5]at hb2;have d1:=bF9 hb2.1.1;have d2:=bF8 hb2.1.2;have d3:=bF8 hb2.2;subst d1;split at h
 case h_2=>cases h
 rename_i c1 k1 e1 z1 c2 k2 e2 z2 hga hgb;cases hb3:Nat.ble (oa+la*z1) k1&&Nat.ble (ob+la*z1) k2&&Nat.beq e1 e2&&Nat.beq z1 z2 with
 |false=>rw[hb3]at h;cases h
 |true=>
 rw[hb3,bH1]at h;simp only[bF5]at hb3;have f0:=bF8 hb3.1.1.1;have f1:=bF8 hb3.1.1.2;have f2:=bF9 hb3.1.2;have f3:=bF9 hb3.2;subst f2;subst f3;split at h
 case h_2=>cases h
 rename_i v1 v2 hl1 hl2;cases hveq0:(T8 (veq 100) v1 v2||clEq v1 v2)&&v1.all noR with
 |false=>rw[hveq0]at h;cases h
 |true=>
 rw[hveq0,bH1]at h;simp only[bF4,bF6]at h;obtain⟨rfl,rfl⟩:=h;rw[bF5]at hveq0;obtain⟨hveq,hnoR⟩:=hveq0;have hvv:v1=v2:=by
  rw[bN1]at hveq;exact hveq.elim (X3 (ap5 100)) bz1
 subst hvv;have hlen1:=(j7 hl1).1;have hsame1:∀x,x<la*z1->(fill .e 0 v1).get x=c1.get (oa+x):=by
  intro x hx;rw[<-(j7 hl1).2 x hx];exact A3 v1 x (by omega)
 have hnr:∀x v,x<la*z1->(fill .e 0 v1).get x=some v->noR v=true:=by
  intro x v hx hg;rw[A3 v1 x (by omega)]at hg
  exact bI4.1 hnoR v (bG4 hg)
 have hsame:∀x,x<la*z1->(fill .e 0 v1).get x=c2.get (ob+x):=by
  intro x hx;rw[<-(j7 hl2).2 x hx];exact A3 v1 x (by omega)
 have small:∀x b,((T.set .e i (some bi)).set j (some bj):T Blk).get x=some b->hp.m.get x=some b:=by
  intro x b hg;rw[T.get_set]at hg
  by_cases hj:x=j
  ·rw[bH6 hj]at hg
   simp only[bF4]at hg;subst hg;subst hj;exact hgj
  ·rw[bH4 hj,T.get_set]at hg
   by_cases hi:x=i
   ·rw[bH6 hi]at hg
    simp only[bF4]at hg;subst hg;subst hi;exact hgi
   ·rw[bH4 hi]at hg
    simp[T.get_e]at hg
 have hmax:=(hw.less small).max;obtain⟨s',r,rfl,hs,hrest⟩:=hargs.uncons;cases hs with
 |slice _ _ p _ _ c' hpi hcc hll=>
 obtain⟨hclo,hbnd⟩:I4 c<=c'/\p.dl+o0+c'*p.esz<=p.siz:=by
  rcases hcc with⟨_,h⟩| ⟨_,h2,_,h4⟩
  ·omega
  ·exact⟨h2,h4⟩
 have hlu:l+m<unk:=by unfold unk;omega
 by_cases hroom:l+m<=c'
 ·have hv' : VR σ (.slice (some ⟨i, o0, none⟩) l (d8 (l + m) 0)) (.slice (some ⟨p.blk, p.dl + o0, none⟩) l c') :=
   .slice i o0 p l _ c' hpi (.inr ⟨n9 _ _,by rw[F6 C9];exact hroom,.inl (E2 C9),hbnd⟩) hll
  refine(hR _ _ _ _ hA _ _ _ _ _ (VRL.cons hv' hrest) hmax).mono fun e w' he=>?_
  obtain⟨σa,u,rfl,gr,hvu,hwa⟩:=he;obtain⟨σ',q1,q2,q3⟩:=aA6 (N:=Nat.max ha.nx hbb.nx) hw hgi hgj hwa gr hvu d2 hga f0 hsame1 hnr (Nat.le_max_left _ _);exact⟨σ',u,rfl,q1,q2,q3⟩
 ·have hv' : VR σ (.slice (some ⟨i, o0, none⟩) l (d8 l (l + m))) (.slice (some ⟨p.blk, p.dl + o0, none⟩) l c') :=
   .slice i o0 p l _ c' hpi (.inr ⟨n9 _ _,by rw[F6 hlu];exact hll,.inr (by rw[E2 hlu];omega),hbnd⟩) hll
  refine(hR _ _ _ _ hB _ _ _ _ _ (VRL.cons hv' hrest) hmax).mono fun e w' he=>?_
  obtain⟨σa,u,rfl,gr,hvu,hwa⟩:=he;obtain⟨σ',q1,q2,q3⟩:=aA6 (N:=Nat.max ha.nx hbb.nx) hw hgi hgj hwa gr hvu d3 hgb f1 hsame hnr (bM4 _ _);exact⟨σ',u,rfl,q1,q2,q3⟩
theorem aQ0 {dr:E5}(hdr:X2 P dr){ov:FuncId->Option TypeId}(hov:∀g t,ov g=some t->ah9 P g t):∀n,D7 P (V3 P dr ov n):=by
 intro n
 induction n with
 |zero=>exact⟨(fun g args hp v hp' h=>by cases h),hov,(fun i args hp v hp' h=>by cases h)⟩
 |succ n ih=>
  refine⟨fun g args hp v hp' h=>?_,hov,aO2 hdr ih n⟩
  simp only[V3,at6]at h;cases ht:isT (ov g)&&args.isEmpty with
  |true=>
   rw[ht,bH1]at h;simp only[bF4,bF6]at h;obtain⟨rfl,rfl⟩:=h;rw[bF5]at ht;intro B w0 σ w args' ha hw;obtain rfl:=List.isEmpty_iff.1 ht.2;obtain rfl:=ha.unnil;have h1:=ht.1;unfold isT at h1;split at h1
   ·rename_i t e
    rcases hov g t e with⟨_,k⟩| ⟨k,_⟩
    ·exact(k w).mono fun e w' he=>⟨σ,_,he.1,Sg.gr_refl _ σ,.bool true,hw.below he.2⟩
    ·exact absurd (bF9 h1) k
   ·cases h1
  |false=>
  rw[ht,bH2]at h;have hb:=aW2 hdr ih (aN3 hdr ih n) n g;split at h
  ·rename_i r hr
   simp only[bF4]at h;subst h;exact hb args hp v hp' hr
  ·exact aO7 hb args hp v hp' h
end
end Go.Xe
end PartXmS
noncomputable section PartXm13
namespace Go.Xe
open Go.RowKit
structure Ent where
 i:Nat
 o:Oper
 pre:Nat
 tm:T Value
 S:Hp
 S2:Hp
 I:Nat
 wt:Bool
 r:Value
 nw:Option Nw
def takes (nx0:Nat)(m:Nat->Bool):List Ent->Hp->Hp
 | [],S=>S
 |e::es,S=>match e.nw with
  |some n=>bif m e.i then takes nx0 m es (S.take (nx0+e.i) n)else takes nx0 m es S
  |none=>takes nx0 m es S
def aE5 (pre I:Nat)(j:Nat):Bool:=pre.testBit j&& !I.testBit j
def aE4 (I:Nat)(j:Nat):Bool:= !I.testBit j
structure Out where
 tm:T Value
 S:Hp
 I:Nat
 es:List Ent
def xgo (P:Program)(call:f9)(nt:Nat)(all:List Oper)(nx0:Nat):List (Oper×Nat)->Nat->T Value->Hp->Nat->List Ent->Option Out
 | [],_,tm,S,I,es=>some ⟨tm,S,I,es⟩
 | (o,pre)::rest,i,tm,S,I,es=>
  bif B6 nt o.dst then
   bif q9 all tm o then
    match d9 o.op with
    |0=>match xop P call tm S o.op with
     |some (v,_)=>xgo P call nt all nx0 rest (i+1) (z6 tm o.dst v) S I (⟨i,o,pre,tm,S,S,I,true,v,none⟩::es)
     |none=>none
    |1=>match xrd P tm S o.op with
     |some v=>xgo P call nt all nx0 rest (i+1) (z6 tm o.dst v) S I (⟨i,o,pre,tm,S,S,I,true,v,none⟩::es)
     |none=>none
    |2=>match xnw P tm o.op with
     |some n=>xgo P call nt all nx0 rest (i+1) (z6 tm o.dst (n.val (nx0+i))) S I (⟨i,o,pre,tm,S,S,I,true,n.val (nx0+i),some n⟩::es)
     |none=>none
    |_=>match xop P call tm (takes nx0 (aE5 pre I) es S) o.op with
     |some (v,S2)=>xgo P call nt all nx0 rest (i+1) (z6 tm o.dst v) S2 (I|||pre) (⟨i,o,pre,tm,S,S2,I,true,v,none⟩::es)
     |none=>none
   else xgo P call nt all nx0 rest (i+1) (z6 tm o.dst undef) S I (⟨i,o,pre,tm,S,S,I,false,undef,none⟩::es)
  else none
structure aY5 (P:Program)(call:f9)(nt:Nat)(all:List Oper)(nx0:Nat)(e:Ent)(es:List Ent)(tm':T Value)(S':Hp)(I':Nat):Prop where
 dst:B6 nt e.o.dst=true
 wt:e.wt=q9 all e.tm e.o
 tm:tm'=z6 e.tm e.o.dst e.r
 S2:e.S2=S'
 un:e.wt=false->e.r=undef/\e.nw=none
 low:(e.wt=false\/d9 e.o.op≠3)->S'=e.S/\I'=e.I
 k0:e.wt=true->d9 e.o.op=0-> ∀S,xop P call e.tm S e.o.op=some (e.r,S)
 k1:e.wt=true->d9 e.o.op=1->xrd P e.tm e.S e.o.op=some e.r
 k2:e.wt=true->d9 e.o.op=2-> ∃n,xnw P e.tm e.o.op=some n/\e.r=n.val (nx0+e.i)/\e.nw=some n
 k3:e.wt=true->3<=d9 e.o.op->xop P call e.tm (takes nx0 (aE5 e.pre e.I) es e.S) e.o.op=some (e.r,S')/\I'=e.I|||e.pre
 nw:d9 e.o.op≠2->e.nw=none
inductive H5 (P : Program) (call : f9) (nt : Nat) (all : List Oper) (nx0 : Nat) (tmN : T Value) (SN : Hp) (IN : Nat) : List Ent → List Ent → T Value → Hp → Nat → Prop
 |nil (es:List Ent):H5 P call nt all nx0 tmN SN IN es [] tmN SN IN
 | cons (e : Ent) (es s : List Ent) (tm' : T Value) (S' : Hp) (I' : Nat) (hi : e.i = es.length) (h : aY5 P call nt all nx0 e es tm' S' I')
   (hc:H5 P call nt all nx0 tmN SN IN (e::es) s tm' S' I'):H5 P call nt all nx0 tmN SN IN es (e::s) e.tm e.S e.I
theorem az2 (o:Op):d9 o<=3:=by
 unfold d9;split<;>first|omega| (rename_i e;cases Nat.beq e rgT<;>decide)| (rename_i e _;cases Nat.beq e rgT<;>decide)
section
variable {P :Program}{call:f9}{nt:Nat}{all:List Oper}{nx0:Nat}{tmN:T Value}{SN:Hp}{IN:Nat}
theorem bo7 : ∀ (ps : List (Oper × Nat)) (i : Nat) (tm : T Value) (S : Hp) (I : Nat) (es : List Ent) (out : Out), xgo P call nt all nx0 ps i tm S I es = some out → i = es.length →
  ∃s,out.es=s.reverse++es/\s.map (fun e=>(e.o,e.pre))=ps/\H5 P call nt all nx0 out.tm out.S out.I es s tm S I:=by
 intro ps
 induction ps with
 |nil=>
  intro i tm S I es out h hi;simp only[xgo,bF4]at h;subst h;exact⟨[],rfl,rfl,.nil es⟩
 | cons p ps ih =>
  intro i tm S I es out h hi;obtain⟨o,pre⟩:=p;simp only[xgo]at h;cases hd:B6 nt o.dst with
  |false=>rw[hd]at h;cases h
  | true =>
   rw [hd,bH1] at h;have next : ∀ (e : Ent) (S' : Hp) (I' : Nat), e.i = i → e.o = o → e.pre = pre → e.tm = tm → e.S = S → e.I = I → aY5 P call nt all nx0 e es (z6 tm o.dst e.r) S' I' →
     xgo P call nt all nx0 ps (i+1) (z6 tm o.dst e.r) S' I' (e::es)=some out->
     ∃s,out.es=s.reverse++es/\s.map (fun e=>(e.o,e.pre))=(o,pre)::ps/\H5 P call nt all nx0 out.tm out.S out.I es s tm S I:=by
    rintro e S' I' rfl rfl rfl rfl rfl rfl hs hx
    obtain⟨s,h1,h2,h3⟩:=ih _ _ _ _ _ _ hx (by simp[hi])
    exact⟨e::s,by simp[h1],by simp[h2],.cons e es s _ _ _ hi hs h3⟩
   cases hw:q9 all tm o with
   |false=>
    rw[hw,bH2]at h;refine next ⟨i,o,pre,tm,S,S,I,false,undef,none⟩ S I rfl rfl rfl rfl rfl rfl ⟨hd,hw.symm,rfl,rfl,fun _=>⟨rfl,rfl⟩,fun _=>⟨rfl,rfl⟩,?_,?_,?_,?_,fun _=>rfl⟩ h<;>(intro hf;cases hf)
   |true=>
    rw[hw,bH1]at h;split at h
    ·rename_i hk
     split at h
     ·rename_i v S2 hx
      obtain⟨r,hr⟩:=aX2 (P:=P) (call:=call) (tm:=tm) hk;have hrv:r=some v:=by
       rw[hr]at hx;exact(i5 hx).1
      refine next ⟨i,o,pre,tm,S,S,I,true,v,none⟩ S I rfl rfl rfl rfl rfl rfl ⟨hd,hw.symm,rfl,rfl,fun hf=>(by cases hf),fun _=>⟨rfl,rfl⟩,fun _ _ S=>?_,fun _ h1=>?_,fun _ h1=>?_,fun _ h1=>?_,fun _=>rfl⟩ h
      ·rw[hr,hrv];rfl
      ·have:d9 o.op=1:=h1;omega
      ·have:d9 o.op=2:=h1;omega
      ·have:3<=d9 o.op:=h1;omega
     ·cases h
    ·rename_i hk
     split at h
     ·rename_i v hx
      refine next ⟨i,o,pre,tm,S,S,I,true,v,none⟩ S I rfl rfl rfl rfl rfl rfl ⟨hd,hw.symm,rfl,rfl,fun hf=>(by cases hf),fun _=>⟨rfl,rfl⟩,fun _ h1=>?_,fun _ _=>hx,fun _ h1=>?_,fun _ h1=>?_,fun _=>rfl⟩ h
      ·have:d9 o.op=0:=h1;omega
      ·have:d9 o.op=2:=h1;omega
      ·have:3<=d9 o.op:=h1;omega
     ·cases h
    ·rename_i hk
     split at h
     ·rename_i n hx
      refine next ⟨i,o,pre,tm,S,S,I,true,n.val (nx0+i),some n⟩ S I rfl rfl rfl rfl rfl rfl ⟨hd,hw.symm,rfl,rfl,fun hf=>(by cases hf),fun _=>⟨rfl,rfl⟩,fun _ h1=>?_,fun _ h1=>?_,fun _ _=>⟨n,hx,rfl,rfl⟩,fun _ h1=>?_,fun h1=>absurd hk h1⟩ h
      ·have:d9 o.op=0:=h1;omega
      ·have:d9 o.op=1:=h1;omega
      ·have:3<=d9 o.op:=h1;omega
     ·cases h
    ·rename_i hk0 hk1 hk2
     have h3:d9 o.op=3:=by
      have:=az2 o.op;have h0:d9 o.op≠0:=hk0;have h1:d9 o.op≠1:=hk1;have h2:d9 o.op≠2:=hk2;omega
     split at h
     ·rename_i v S2 hx
      refine next ⟨i,o,pre,tm,S,S2,I,true,v,none⟩ S2 (I|||pre) rfl rfl rfl rfl rfl rfl ⟨hd,hw.symm,rfl,rfl,fun hf=>(by cases hf),fun hl=>?_,fun _ h1=>?_,fun _ h1=>?_,fun _ h1=>?_,fun _ _=>⟨hx,rfl⟩,fun _=>rfl⟩ h
      ·rcases hl with hf|hf
       ·cases hf
       ·exact absurd h3 hf
      ·have:d9 o.op=0:=h1;omega
      ·have:d9 o.op=1:=h1;omega
      ·have:d9 o.op=2:=h1;omega
     ·cases h
theorem H5.get {es s : List Ent} {tm : T Value} {S : Hp} {I : Nat} (h : H5 P call nt all nx0 tmN SN IN es s tm S I) : ∀ {k : Nat} {e : Ent}, s[k]? = some e →
  e.i=es.length+k/\ ∃tm' S' I',aY5 P call nt all nx0 e ((s.take k).reverse++es) tm' S' I'/\H5 P call nt all nx0 tmN SN IN (e::((s.take k).reverse++es)) (s.drop (k+1)) tm' S' I':=by
 induction h with
 |nil es=>intro k e h;simp at h
 |cons e0 es s tm' S' I' hi hs hc ih=>
  intro k e h;cases k with
  |zero=>
   simp only[bH0,bF4]at h;subst h;exact⟨by simpa using hi,tm',S',I',by simpa using hs,by simpa using hc⟩
  |succ k=>
   simp only[bG5]at h;obtain⟨h1,tm2,S2,I2,h2,h3⟩:=ih h;refine⟨by rw[h1];simp;omega,tm2,S2,I2,?_,?_⟩
   ·simpa using h2
   ·simpa using h3
theorem H5.upTo {es s : List Ent} {tm : T Value} {S : Hp} {I : Nat} (h : H5 P call nt all nx0 tmN SN IN es s tm S I) : ∀ {k : Nat} {e : Ent}, s[k]? = some e →
  H5 P call nt all nx0 e.tm e.S e.I es (s.take k) tm S I:=by
 induction h with
 |nil es=>intro k e h;simp at h
 |cons e0 es s tm' S' I' hi hs hc ih=>
  intro k e h;cases k with
  |zero=>
   simp only[bH0,bF4]at h;subst h;exact .nil es
  |succ k=>
   simp only[bG5]at h;exact .cons e0 es _ tm' S' I' hi hs (ih h)
theorem H5.tm_none {es s:List Ent}{tm:T Value}{S:Hp}{I:Nat}(h:H5 P call nt all nx0 tmN SN IN es s tm S I){t:Nat}(hn:∀e∈s,e.o.dst≠some t):tmN.get t=tm.get t:=by
 induction h with
 |nil es=>rfl
 |cons e0 es s tm' S' I' hi hs hc ih=>
  rw[ih (fun e he=>hn e (by simp[he])),hs.tm]
  have h0:=hn e0 (by simp)
  unfold z6;cases hd:e0.o.dst with
  |none=>rfl
  |some d=>
   simp only;rw[T.get_set,bH4 (fun e=>h0 (by rw[hd,e]))]
theorem H5.tm_some {es s : List Ent} {tm : T Value} {S : Hp} {I : Nat} (h : H5 P call nt all nx0 tmN SN IN es s tm S I) : ∀ {k : Nat} {e : Ent} {t : Nat}, s[k]? = some e → e.o.dst = some t →
  (∀(j:Nat) e',s[j]? =some e'->j≠k->e'.o.dst≠some t)->tmN.get t=some e.r:=by
 induction h with
 |nil es=>intro k e t h;simp at h
 |cons e0 es s tm' S' I' hi hs hc ih=>
  intro k e t h hd hu;cases k with
  |zero=>
   simp only[bH0,bF4]at h;subst h;have hno:∀e∈s,e.o.dst≠some t:=by
    intro e he;obtain⟨j,hj,rfl⟩:=List.mem_iff_getElem.1 he;exact hu (j+1) _ (by simp[hj]) (by omega)
   rw[hc.tm_none hno,hs.tm];unfold z6;rw[hd];simp only;rw[T.get_set,bH6 rfl]
  |succ k=>
   simp only[bG5]at h;exact ih h hd (fun j e' hj hne=>hu (j+1) e' (by simpa using hj) (by omega))
theorem H5.still {es s:List Ent}{tm:T Value}{S:Hp}{I:Nat}(h:H5 P call nt all nx0 tmN SN IN es s tm S I)(hn:∀e∈s,d9 e.o.op≠3):SN=S/\IN=I:=by
 induction h with
 |nil es=>exact⟨rfl,rfl⟩
 |cons e0 es s tm' S' I' hi hs hc ih=>
  obtain⟨h1,h2⟩:=ih (fun e he=>hn e (by simp[he]))
  obtain⟨h3,h4⟩:=hs.low (.inr (hn e0 (by simp)))
  exact⟨h1.trans h3,h2.trans h4⟩
end
section
variable {P :Program}{B:BS}{w0:World}{σ:Sg}{hp:Hp}{w:World}
theorem Ext.take {id id' b b':Nat}{n n':Nw}(h:Ext B σ hp w id n b)(h':Ext B σ hp w id' n' b')(hb:b≠b'):Ext B σ (hp.take id n) w id' n' b':=by
 obtain⟨p,o,a1,a2,a3,a4,a5,a6⟩:=h';obtain⟨q,D,c1,c2,_⟩:=h;refine⟨p,o,a1,a2,a3,a4,a5,?_⟩;intro i c x r hg hx hr;simp only[Hp.take,T.get_set]at hg
 by_cases hi:i=id
 ·rw[bH6 hi,bF4]at hg
  subst hi;subst hg;have:=(Ix.of n.rg).1 hx;subst this;have:r=q:=bI0 (hr.symm.trans c1);subst this;rw[c2];exact hb
 ·rw[bH4 hi]at hg
  exact a6 i c x r hg hx hr
theorem Ext.step {S1 S2:Hp}{id b:Nat}{n:Nw}(h:Ext B σ S1 w id n b){σ':Sg}{w':World}(k:HR (rest B σ S1 w) w σ' S2 w')(hle:Sg.le σ σ'):Ext B σ' S2 w' id n b:=by
 obtain⟨p,o,a1,a2,a3,a4,a5,a6⟩:=h;have hr:rest B σ S1 w b:= .inr ⟨(bG9.1 a3).1,fun i c r q hg hx hq=>a6 i c r q hg hx hq⟩
 refine⟨p,o,hle _ _ a1,a2,by rw[k.kept b hr];exact a3,a4.mono hle,a5,?_⟩
 intro i c r q hg hx hq heq;obtain⟨q',D,d1,d2,_⟩:=k.liv i c r hg hx;have:q'=q:=bI0 (d1.symm.trans hq);subst this;rw[heq]at d2;cases hc:Q1 c with
 |true=>exact a5 (B.sub _ (d2.yes hc))
 |false=>exact d2.no hc hr
theorem Ext.lay {id id' b':Nat}{n':Nw}(h':Ext B σ hp w id' n' b')(hw:HR B w0 σ hp w)(hid:σ id=none)(pl:Pl)(o:Obj):Ext B (σ.ext id pl) hp (w.alloc o) id' n' b':=by
 obtain⟨p,C,a1,a2,a3,a4,a5,a6⟩:=h';have hle:=Sg.le_ext pl hid;refine⟨p,C,hle _ _ a1,a2,by rw[Below.heap_alloc _ _ _ (bG9.1 a3).1];exact a3,a4.mono hle,a5,?_⟩
 intro i c r q hg hx hq;obtain⟨q',D,d1,_⟩:=hw.liv i c r hg hx;have:=(hle _ _ d1).symm.trans hq;have:q'=q:=bI0 this;subst this;exact a6 i c r q' hg hx d1
theorem bx8 {nx0 : Nat} {m : Nat → Bool} : ∀ (es : List Ent) {hp : Hp}, HR B w0 σ hp w →
  (∀(j:Nat) e n,es[j]? =some e->e.nw=some n->m e.i=true-> ∃b,Ext B σ hp w (nx0+e.i) n b)->
  (∀(j j':Nat) e e' n n' b b',es[j]? =some e->es[j']? =some e'->j≠j'->e.nw=some n->e'.nw=some n'->m e.i=true->m e'.i=true->Ext B σ hp w (nx0+e.i) n b->Ext B σ hp w (nx0+e'.i) n' b'->b≠b')->
  HR B w0 σ (takes nx0 m es hp) w/\(takes nx0 m es hp).nx=hp.nx/\
  ∀id' n' b',Ext B σ hp w id' n' b'->(∀(j:Nat) e n b,es[j]? =some e->e.nw=some n->m e.i=true->Ext B σ hp w (nx0+e.i) n b->b≠b')->Ext B σ (takes nx0 m es hp) w id' n' b':=by
 intro es
 induction es with
 |nil=>intro hp hw _ _;exact⟨hw,rfl,fun id' n' b' h _=>h⟩
 |cons e es ih=>
  intro hp hw h1 h2;cases hn:e.nw with
  |none=>
   simp only[takes,hn];obtain⟨a1,a2,a3⟩:=ih hw (fun j e n hj=>h1 (j+1) e n (by simpa using hj)) (fun j j' e e' n n' b b' hj hj' hne=>h2 (j+1) (j'+1) e e' n n' b b' (by simpa using hj) (by simpa using hj') (by omega))
   exact⟨a1,a2,fun id' n' b' hx hd=>a3 id' n' b' hx (fun j e n b hj=>hd (j+1) e n b (by simpa using hj))⟩
  |some n=>
   cases hm:m e.i with
   |false=>
    simp only[takes,hn,hm,bH2];obtain⟨a1,a2,a3⟩:=ih hw (fun j e n hj=>h1 (j+1) e n (by simpa using hj)) (fun j j' e e' n n' b b' hj hj' hne=>h2 (j+1) (j'+1) e e' n n' b b' (by simpa using hj) (by simpa using hj') (by omega))
    exact⟨a1,a2,fun id' n' b' hx hd=>a3 id' n' b' hx (fun j e n b hj=>hd (j+1) e n b (by simpa using hj))⟩
   |true=>
    simp only[takes,hn,hm,bH1];obtain⟨b,hb⟩:=h1 0 e n rfl hn hm;have hb0:∀b2,Ext B σ hp w (nx0+e.i) n b2->b2=b:=by
     intro b2 hx;obtain⟨p,_,c1,c2,_⟩:=hx;obtain⟨q,_,d1,d2,_⟩:=hb;have:p=q:=bI0 (c1.symm.trans d1);rw[<-c2,<-d2,this]
    have keep:∀ {id':Nat} {n':Nw} {b':Nat},Ext B σ hp w id' n' b'->b≠b'->Ext B σ (hp.take (nx0+e.i) n) w id' n' b':=fun hx hne=>hb.take hx hne
    have back:∀ {id':Nat} {n':Nw} {b' b2:Nat},Ext B σ hp w id' n' b'->Ext B σ (hp.take (nx0+e.i) n) w id' n' b2->b2=b':=by
     intro id' n' b' b2 hx hy;obtain⟨p,_,c1,c2,_⟩:=hx;obtain⟨q,_,d1,d2,_⟩:=hy;have:p=q:=bI0 (c1.symm.trans d1);rw[<-c2,<-d2,this]
    obtain⟨a1,a2,a3⟩:=ih (hp:=hp.take (nx0+e.i) n) (hw.take hb)
     (fun j e' n' hj hn' hm'=>by
      obtain⟨b',hb'⟩:=h1 (j+1) e' n' (by simpa using hj) hn' hm'
      exact⟨b',keep hb' (h2 0 (j+1) e e' n n' b b' rfl (by simpa using hj) (by omega) hn hn' hm hm' hb hb')⟩)
     (fun j j' e1 e2 n1 n2 b1 b2 hj hj' hne k1 k2 k3 k4 x1 x2=>by
      obtain⟨c1,y1⟩:=h1 (j+1) e1 n1 (by simpa using hj) k1 k3
      obtain⟨c2,y2⟩:=h1 (j'+1) e2 n2 (by simpa using hj') k2 k4
      rw[back y1 x1,back y2 x2];exact h2 (j+1) (j'+1) e1 e2 n1 n2 c1 c2 (by simpa using hj) (by simpa using hj') (by omega) k1 k2 k3 k4 y1 y2)
    refine⟨a1,a2,fun id' n' b' hx hd=>a3 id' n' b' (keep hx (hd 0 e n b rfl hn hm hb)) (fun j e1 n1 b1 hj k1 k3 x1=>?_)⟩
    obtain⟨c1,y1⟩:=h1 (j+1) e1 n1 (by simpa using hj) k1 k3
    rw[back y1 x1];exact hd (j+1) e1 n1 c1 (by simpa using hj) k1 k3 y1
end
end Go.Xe
end PartXm13
noncomputable section PartXm14
namespace Go.Xe
open Go.RowKit
def xpre (pres:List Nat)(o:Oper):Nat:=
 o.after.toList.foldl (fun s e=>bif Region.binds .any e then(s|||2^e.on)|||pres.getD e.on 0 else s) 0
def R4 :List Oper->List Nat->List Nat
 | [],acc=>acc
 |o::os,acc=>R4 os (acc++ [xpre acc o])
def bu3 (s:Nat):Operand->Nat
 | .tmp t=>s|||2^t
 |_=>s
def ay0 (all:List Oper)(o:Oper):Nat:=
 o.op.operands.toList.foldl bu3 (match o.guard with
  |some (g,_)=>match all[g]? with
   |some p=>match p.dst with
    |some d=>2^d
    |none=>0
   |none=>0
  |none=>0)
structure Inf where
 o:Oper
 pre:Nat
 i:Nat
 lk:Nat
 wr:Bool
def aY9 (all:List Oper)(pres:List Nat):List Inf:=((all.zip pres).zipIdx).map fun x=>⟨x.1.1,x.1.2,x.2,ay0 all x.1.1,Nat.beq (d9 x.1.1.op) 3⟩
def bC4 (o:Oper)(t:Nat):Bool:=match o.dst with|some d=>Nat.beq d t|none=>false
def s1 (pres:List Nat)(x:Inf):Bool:=Nat.beq x.pre (xpre pres x.o)&&x.o.after.toList.all (fun e=> !(Region.binds .any e)||Nat.blt e.on x.i)
def s2 (x y:Inf):Bool:=
 bif Nat.beq x.i y.i then true else
  (match y.o.dst with
   |none=>true
   |some t=> !(bC4 x.o t)&&(bif x.lk.testBit t then(bif Nat.blt y.i x.i then x.pre.testBit y.i else y.pre.testBit x.i)else true))&&
  (bif x.wr&&y.wr&&Nat.blt y.i x.i then x.pre.testBit y.i else true)
def stat (all:List Oper)(pres:List Nat):Bool:=
 Nat.beq pres.length all.length&&(aY9 all pres).all (s1 pres)&&(aY9 all pres).all (fun x=>(aY9 all pres).all (s2 x))
def isW (e:Ent):Bool:=Nat.beq (d9 e.o.op) 3
def O4 (es:List Ent)(e:Ent)(k:Nat):Bool:=
 es.all fun y=>bif isW y then(bif Nat.blt y.i k then !(y.pre.testBit e.i)else !(e.pre.testBit y.i))else true
def own (es:List Ent)(e:Ent)(k:Nat):Bool:=
 es.all fun y=>bif isW y then(Nat.blt y.i k==Nat.blt y.i e.i)else true
def ao6 (P:Program)(es:List Ent)(e:Ent)(k:Nat)(S:Hp):Bool:=
 bif own es e k then true else bif O4 es e k then
  (match xrd P e.tm S e.o.op with
   |some v=>veq 1000 v e.r
   |none=>false)
 else true
def dyn (P:Program)(S0:Hp)(es:List Ent):Bool:=
 es.all fun e=>bif e.wt&&Nat.beq (d9 e.o.op) 1 then ao6 P es e 0 S0&&es.all (fun x=>bif isW x then ao6 P es e (x.i+1) x.S2 else true)else true
def ah4 (P:Program):E5:=fun call nt all tm hp=>
 bif stat all (R4 all [])then
  match xgo P call nt all hp.nx (all.zip (R4 all [])) 0 tm ⟨hp.m,hp.nx+all.length⟩ 0 []with
  |some out=>bif dyn P ⟨hp.m,hp.nx+all.length⟩ out.es then some (out.tm,takes hp.nx (aE4 out.I) out.es out.S)else none
  |none=>none
 else none
theorem ax5 {α : Type} (f : α → Nat → Bool) (g : Nat → α → Nat) (hg : ∀ s x j, (g s x).testBit j = true ↔ (s.testBit j = true ∨ f x j = true)) : ∀ (l : List α) (s : Nat) (j : Nat),
  (l.foldl g s).testBit j=true↔(s.testBit j=true\/ ∃x∈l,f x j=true)
 | [],s,j=>by simp
 |x::l,s,j=>by
  rw[List.foldl_cons,ax5 f g hg l (g s x) j,hg]
  constructor
  ·rintro ((h|h)| ⟨y,hy,h⟩)
   ·exact .inl h
   ·exact .inr ⟨x,by simp,h⟩
   ·exact .inr ⟨y,by simp[hy],h⟩
  ·rintro (h| ⟨y,hy,h⟩)
   ·exact .inl (.inl h)
   ·rcases bJ2.1 hy with rfl|hy
    ·exact .inl (.inr h)
    ·exact .inr ⟨y,hy,h⟩
theorem bp4 {pres:List Nat}{o:Oper}{j:Nat}(h:(xpre pres o).testBit j=true):∃e∈o.after.toList,Region.binds .any e=true/\(e.on=j\/(pres.getD e.on 0).testBit j=true):=by
 unfold xpre at h;rw[ax5 (fun(e:Edge) j=>Region.binds .any e&&(decide (e.on=j)|| (pres.getD e.on 0).testBit j))]at h
 ·rcases h with h| ⟨e,he,h⟩
  ·simp at h
  ·simp only[bF5,bN1,bH5]at h
   exact⟨e,he,h.1,h.2⟩
 ·intro s e j
  cases Region.binds .any e with
  |false=>simp
  |true=>simp[Nat.testBit_or,Nat.testBit_two_pow,or_assoc]
theorem ay1 {all : List Oper} {o : Oper} {t : Nat} : (ay0 all o).testBit t = true ↔
  ((∃g want p,o.guard=some (g,want)/\all[g]? =some p/\p.dst=some t)\/Operand.tmp t∈o.op.operands.toList):=by
 unfold ay0;rw[ax5 (fun(x:Operand) j=>match x with| .tmp t=>decide (t=j)|_=>false)]
 ·constructor
  ·rintro (h| ⟨x,hx,h⟩)
   ·left
    cases hg:o.guard with
    |none=>simp[hg]at h
    |some gw=>
     obtain⟨g,want⟩:=gw;simp only[hg]at h;cases hp:all[g]? with
     |none=>simp[hp]at h
     |some p=>
      simp only[hp]at h;cases hd:p.dst with
      |none=>simp[hd]at h
      |some d=>
       simp only[hd,Nat.testBit_two_pow,bH5]at h;exact⟨g,want,p,rfl,hp,by rw[hd,h]⟩
   ·right
    cases x with
    |tmp t'=>simp only[bH5]at h;rw[<-h];exact hx
    |_=>simp at h
  ·rintro (⟨g,want,p,hg,hp,hd⟩|h)
   ·left
    simp[hg,hp,hd]
   ·exact .inr ⟨_,h,by simp⟩
 ·intro s x j
  cases x<;>simp[bu3,Nat.testBit_or,Nat.testBit_two_pow]
def lst (L:Array Bool)(j:Nat):Prop:=L.getD j false=true
section
variable {P :Program}{B:BS}{w0:World}{call:f9}{nt:Nat}{ops:Array Oper}{pres:List Nat}{nx0:Nat}{l:List Ent}{tm0 tmN:T Value}{S0 SN:Hp}{IN:Nat}
structure Fix (P:Program)(call:f9)(nt:Nat)(ops:Array Oper)(pres:List Nat)(nx0:Nat)(l:List Ent)(tm0 tmN:T Value)(S0 SN:Hp)(IN:Nat):Prop where
 stat:stat ops.toList pres=true
 dyn:dyn P S0 l.reverse=true
 map:l.map (fun e=>(e.o,e.pre))=ops.toList.zip pres
 chain:H5 P call nt ops.toList nx0 tmN SN IN [] l tm0 S0 0
variable (F :Fix P call nt ops pres nx0 l tm0 tmN S0 SN IN)
include F
theorem Fix.plen :pres.length=ops.size:=by
 have:=F.stat;simp only[Xe.stat,bF5]at this;have:=bF9 this.1.1
 simpa using this
theorem Fix.len :l.length=ops.size:=by
 have:=congrArg List.length F.map
 simpa [F.plen]using this
theorem Fix.ent {j:Nat}{o:Oper}(h:ops[j]? =some o):∃e,l[j]? =some e/\e.o=o:=by
 have hj:j<ops.size:=(bG9.1 h).1;have hj':j<l.length:=by rw[F.len];exact hj
 refine⟨l[j],by simp[hj'],?_⟩
 have:=congrArg (fun x=>x[j]?) F.map
 simp only[bK4]at this;have hz:(ops.toList.zip pres)[j]? =some (o,pres[j]'(by rw[F.plen];exact hj)):=by
  rw[List.getElem?_zip_eq_some];exact⟨by simpa using h,by simp⟩
 rw[hz]at this;simp only[bG6 hj',bJ9,bF4,bF6]at this;exact this.1
theorem Fix.at_ {j:Nat}{e:Ent}(h:l[j]? =some e):ops[j]? =some e.o/\e.pre=pres.getD j 0/\e.i=j:=by
 have hm:=congrArg (fun x=>x[j]?) F.map
 simp only[bK4,h,bJ9]at hm;have:=List.getElem?_zip_eq_some.1 hm.symm;refine⟨by simpa using this.1,by simp[List.getD,this.2],?_⟩
 have:=(F.chain.get h).1
 simpa using this
theorem Fix.inf {j:Nat}{e:Ent}(h:l[j]? =some e):(⟨e.o,e.pre,j,ay0 ops.toList e.o,Nat.beq (d9 e.o.op) 3⟩:Inf)∈aY9 ops.toList pres:=by
 have hm:=congrArg (fun x=>x[j]?) F.map
 simp only[bK4,h,bJ9]at hm;unfold aY9;refine bN7.2 ⟨((e.o,e.pre),j),?_,rfl⟩;rw[List.mem_zipIdx_iff_getElem?]
 simpa using hm.symm
theorem Fix.p1 {j : Nat} {e : Ent} (h : l[j]? = some e) : (∀ k, e.pre.testBit k = true → ∃ ed ∈ e.o.after.toList, Region.binds .any ed = true ∧ (ed.on = k ∨ (pres.getD ed.on 0).testBit k = true)) ∧
  ∀ed∈e.o.after.toList,Region.binds .any ed=true->ed.on<j:=by
 have hs:=F.stat;simp only[Xe.stat,bF5,bI4]at hs;have:=hs.1.2 _ (F.inf h);simp only[s1,bF5,bI4,bN1,bK0]at this;have he:=bF9 this.1;refine⟨fun k hk=>bp4 (by rw[<-he];exact hk),fun ed hed hb=>?_⟩
 rcases this.2 ed hed with h1|h1
 ·rw[hb]at h1;cases h1
 ·exact bF8 h1
theorem Fix.p2 {i j : Nat} {e e' : Ent} (hi : l[i]? = some e) (hj : l[j]? = some e') (hne : i ≠ j) : (∀ t, e'.o.dst = some t → e.o.dst ≠ some t) ∧
  (∀t,e'.o.dst=some t->(ay0 ops.toList e.o).testBit t=true->(j<i->e.pre.testBit j=true)/\(i<j->e'.pre.testBit i=true))/\
  (d9 e.o.op=3->d9 e'.o.op=3->j<i->e.pre.testBit j=true):=by
 have hs:=F.stat;simp only[Xe.stat,bF5,bI4]at hs;have:=hs.2 _ (F.inf hi) _ (F.inf hj);simp only[s2]at this;rw[u6 hne,bH2,bF5]at this;obtain⟨h1,h2⟩:=this;refine⟨fun t ht hd=>?_,fun t ht hl=>?_,fun k1 k2 hlt=>?_⟩
 ·simp only[ht,bF5,bK0]at h1
  have:=h1.1;simp only[bC4,hd]at this;rw[j9 rfl]at this;cases this
 ·simp only[ht,bF5,hl,bH1]at h1
  have h3:=h1.2
  constructor
  ·intro hlt
   rw[show Nat.blt j i=true from bG1 hlt,bH1]at h3;exact h3
  ·intro hlt
   have:Nat.blt j i=false:=by
    cases hb:Nat.blt j i
    ·rfl
    ·have:j<i:=bF8 hb;omega
   rw[this,bH2]at h3;exact h3
 ·rw[j9 k1,j9 k2,show Nat.blt j i=true from bG1 hlt]at h2
  simpa using h2
omit F
structure Inv (B:BS)(w0:World)(P:Program)(call:f9)(nt:Nat)(ops:Array Oper)(nx0:Nat)(l:List Ent)(tm0 tmN:T Value)(S0 SN:Hp)(IN:Nat)(σ0:Sg)(D:List Deferred)(L:Array Bool)(a:Act)(w:World)(σ:Sg)(k:Nat)(S:Hp)(I:Nat):Prop where
 size:L.size=ops.size
 down:∀j e,l[j]? =some e->lst L j-> ∀m,e.pre.testBit m=true->lst L m
 defers:a.defers=D
 tsz:a.tmps.size=nt
 tin:∀(j:Nat) e t,l[j]? =some e->lst L j->e.o.dst=some t->VR σ e.r (a.tmps.getD t undef)
 tout:∀t,(∀(j:Nat) e,l[j]? =some e->lst L j->e.o.dst≠some t)->VR σ ((tm0.get t).getD undef) (a.tmps.getD t undef)
 cut:∃tmk,H5 P call nt ops.toList nx0 tmN SN IN (l.take k).reverse (l.drop k) tmk S I
 norm:(k=0/\S=S0)\/ ∃e,0<k/\l[k-1]? =some e/\d9 e.o.op=3/\S=e.S2
 wr:∀(j:Nat) e,l[j]? =some e->d9 e.o.op=3->(lst L j↔j<k)
 hr:HR B w0 σ S w
 gr:Sg.gr nx0 S.nx σ0 σ
 room:nx0+ops.size<=S.nx
 none:∀(j:Nat) e n,l[j]? =some e->e.nw=some n-> ¬lst L j->σ (nx0+j)=none
 ext:∀(j:Nat) e n,l[j]? =some e->e.nw=some n->lst L j->I.testBit j=false-> ∃b,Ext B σ S w (nx0+j) n b
 apart:∀(j j':Nat) e e' n n' b b',l[j]? =some e->l[j']? =some e'->e.nw=some n->e'.nw=some n'->j≠j'->lst L j->lst L j'->I.testBit j=false->I.testBit j'=false->
  Ext B σ S w (nx0+j) n b->Ext B σ S w (nx0+j') n' b'->b≠b'
theorem y6 {L:Array Bool}{i j:Nat}(hi:i<L.size):lst (L.setIfInBounds i true) j↔(lst L j\/j=i):=by
 unfold lst
 by_cases h:j=i
 ·subst h;simp[hi]
 ·rw[getD_set_ne false (Ne.symm h)];simp[h]
theorem aB3 {L:Array Bool}{i:Nat}(h:L.getD i true=false):i<L.size/\ ¬lst L i:=by
 have hi:i<L.size:=by
  rcases Nat.lt_or_ge i L.size with h'|h'
  ·exact h'
  ·simp[bQ2 h']at h
 refine⟨hi,fun hl=>?_⟩
 unfold lst at hl;simp[hi]at h hl;rw[h]at hl;cases hl
theorem aG4 {k i : Nat} {tmk : T Value} {S : Hp} {I : Nat} (hc : H5 P call nt ops.toList nx0 tmN SN IN (l.take k).reverse (l.drop k) tmk S I) {e : Ent} (he : l[i]? = some e) (hk : k ≤ i)
  (hn:∀(j:Nat) e',l[j]? =some e'->k<=j->j<i->d9 e'.o.op≠3):e.S=S/\e.I=I:=by
 have h1:(l.drop k)[i-k]? =some e:=by rw[bJ3];rw[show k+(i-k)=i by omega];exact he
 refine(hc.upTo h1).still fun e' hm=>?_
 obtain⟨m,hm2⟩:=bK9.1 hm;have hlt:m<i-k:=by
  rcases Nat.lt_or_ge m (i-k)with h|h
  ·exact h
  ·rw[bI7,bH4 (by omega)]at hm2;exact absurd hm2 (by simp)
 rw[bI7,bH6 hlt,bJ3]at hm2;exact hn (k+m) e' hm2 (by omega) (by omega)
include F
theorem Fix.seen {σ0 : Sg} {D : List Deferred} {L : Array Bool} {a : Act} {w : World} {σ : Sg} {k : Nat} {S : Hp} {I : Nat} (V : Inv B w0 P call nt ops nx0 l tm0 tmN S0 SN IN σ0 D L a w σ k S I)
  {i:Nat} {e:Ent} (he:l[i]? =some e) (hpre:∀m,e.pre.testBit m=true->lst L m) (hi:¬lst L i) {t:Nat} (ht:(ay0 ops.toList e.o).testBit t=true):
  VR σ ((e.tm.get t).getD undef) (a.tmps.getD t undef):=by
 have hp:=F.chain.upTo he
 by_cases hx:∃(j:Nat) (e':Ent),j<i/\l[j]? =some e'/\e'.o.dst=some t
 ·obtain⟨j,e',hlt,hj,hd⟩:=hx
  have hlj:lst L j:=hpre j (((F.p2 he hj (by omega)).2.1 t hd ht).1 hlt)
  have:=hp.tm_some (k:=j) (e:=e') (t:=t) (by rw[bI7,bH6 hlt];exact hj) hd (fun m e2 hm hne hd2=>by
   rw[bI7]at hm;split at hm
   ·exact(F.p2 hm hj hne).1 t hd hd2
   ·exact absurd hm (by simp))
  rw[this];exact V.tin j e' t hj hlj hd
 ·have hno : ∀ e' ∈ l.take i, e'.o.dst ≠ some t := by
   intro e' hm hd;obtain⟨m,hm2⟩:=bK9.1 hm;rw[bI7]at hm2;split at hm2
   ·rename_i hlt;exact hx ⟨m,e',hlt,hm2,hd⟩
   ·exact absurd hm2 (by simp)
  rw[hp.tm_none hno];refine V.tout t fun j e' hj hlj hd=>?_
  by_cases hji:j=i
  ·subst hji;exact hi hlj
  ·rcases Nat.lt_or_ge j i with hlt|hge
   ·exact hx ⟨j,e',hlt,hj,hd⟩
   ·exact hi (V.down j e' hj hlj i (((F.p2 he hj (Ne.symm hji)).2.1 t hd ht).2 (by omega)))
end
theorem aY0 {σ : Sg} {tm : T Value} {tmps : Array Value} (ops : Array Oper) (o : Oper)
  (h:∀g want p d,o.guard=some (g,want)->ops.toList[g]? =some p->p.dst=some d->VR σ ((tm.get d).getD undef) (tmps.getD d undef)):
  Region.wanted o (yielded ops tmps)=q9 ops.toList tm o:=by
 unfold Region.wanted q9;cases hg:o.guard with
 |none=>rfl
 |some gw=>
  obtain⟨j,want⟩:=gw;simp only;have hy:yielded ops tmps j=P1 ops.toList tm j:=by
   unfold yielded P1;rw[Array.getElem?_toList];cases hj:ops[j]? with
   |none=>rfl
   |some p=>
    simp only[Option.bind_some];cases hd:p.dst with
    |none=>rfl
    |some d=>
     simp only[Option.bind_some];have:=h j want p d hg (by simpa using hj) hd
     by_cases hlt:d<tmps.size
     ·have e:tmps[d]? =some tmps[d]:=by simp[hlt]
      have e2:tmps.getD d undef=tmps[d]:=by simp[Array.getD,hlt]
      rw[e2]at this;rw[e];cases hg:tm.get d with
      |none=>
       rw[hg,Option.getD_none]at this;generalize tmps[d]=x at this;cases this;rfl
      |some v=>
       rw[hg,bJ6]at this;generalize tmps[d]=x at this;cases this<;>rfl
     ·have e:tmps[d]? =none:=bQ2 (bN2 hlt)
      have e2:tmps.getD d undef=undef:=by simp[Array.getD,hlt]
      rw[e2]at this;rw[e];cases hg:tm.get d with
      |none=>rfl
      |some v=>
       rw[hg,bJ6]at this;unfold undef at this;cases this;rfl
  rw[hy];cases P1 ops.toList tm j with
  |none=>rfl
  |some b=>cases b<;>cases want<;>rfl
end Go.Xe
end PartXm14
noncomputable section PartXm15
namespace Go.Xe
open Go.RowKit
section
variable {P :Program}{B:BS}{w0:World}{call:f9}{nt:Nat}{ops:Array Oper}{pres:List Nat}{nx0:Nat}{l:List Ent}{tm0 tmN:T Value}{S0 SN:Hp}{IN:Nat}
variable (F :Fix P call nt ops pres nx0 l tm0 tmN S0 SN IN)
include F
theorem Fix.before {i j:Nat}{e:Ent}(hi:i<=l.length)(h:((l.take i).reverse)[j]? =some e):j<i/\l[i-1-j]? =some e/\e.i=i-1-j:=by
 have hlen:(l.take i).length=i:=by simp;omega
 have hj:j<i:=by
  have:=(bF7.1 h).1
  simpa [hlen]using this
 rw[List.getElem?_reverse (by rw[hlen];exact hj),hlen,bI7,bH6 (by omega)]at h
 exact⟨hj,h,(F.at_ h).2.2⟩
theorem Fix.takes {σ0 : Sg} {D : List Deferred} {L : Array Bool} {a : Act} {w : World} {σ : Sg} {k : Nat} {S : Hp} {I : Nat} (V : Inv B w0 P call nt ops nx0 l tm0 tmN S0 SN IN σ0 D L a w σ k S I)
  {i:Nat} (hi:i<=l.length) (m:Nat->Bool) (hm:∀j,j<i->m j=true->lst L j/\I.testBit j=false):
  HR B w0 σ (Xe.takes nx0 m (l.take i).reverse S) w/\(Xe.takes nx0 m (l.take i).reverse S).nx=S.nx/\
  ∀(j:Nat) e n b,l[j]? =some e->e.nw=some n->lst L j->I.testBit j=false->(j<i->m j=false)->Ext B σ S w (nx0+j) n b->Ext B σ (Xe.takes nx0 m (l.take i).reverse S) w (nx0+j) n b:=by
 have H:=bx8 (B:=B) (w0:=w0) (σ:=σ) (w:=w) (nx0:=nx0) (m:=m) (l.take i).reverse V.hr
  (fun j e n hj hn hme=>by
   obtain⟨h1,h2,h3⟩:=F.before hi hj;obtain⟨h4,h5⟩:=hm _ (by omega:i-1-j<i) (h3▸hme)
   rw[h3];exact V.ext _ e n h2 hn h4 h5)
  (fun j j' e e' n n' b b' hj hj' hne hn hn' hme hme' x1 x2=>by
   obtain⟨h1,h2,h3⟩:=F.before hi hj;obtain⟨g1,g2,g3⟩:=F.before hi hj';obtain⟨h4,h5⟩:=hm _ (by omega:i-1-j<i) (h3▸hme)
   obtain⟨g4,g5⟩:=hm _ (by omega:i-1-j'<i) (g3▸hme')
   rw[h3]at x1;rw[g3]at x2;exact V.apart _ _ e e' n n' b b' h2 g2 hn hn' (by omega) h4 g4 h5 g5 x1 x2)
 refine⟨H.1,H.2.1,fun j e n b hj hn hlj hIj hmj hx=>H.2.2 _ n b hx fun j' e' n' b' hj' hn' hme' hx'=>?_⟩
 obtain⟨g1,g2,g3⟩:=F.before hi hj';obtain⟨g4,g5⟩:=hm _ (by omega:i-1-j'<i) (g3▸hme')
 rw[g3]at hx';refine V.apart _ _ e' e n' n b' b g2 hj hn' hn ?_ g4 hlj g5 hIj hx' hx;intro heq;have:=hmj (by omega)
 rw[<-heq,<-g3,hme']at this;cases this
theorem Fix.read {σ0 : Sg} {D : List Deferred} {L : Array Bool} {a : Act} {w : World} {σ : Sg} {k : Nat} {S : Hp} {I : Nat} (V : Inv B w0 P call nt ops nx0 l tm0 tmN S0 SN IN σ0 D L a w σ k S I)
  {i:Nat} {e:Ent} (he:l[i]? =some e) (hpre:∀m,e.pre.testBit m=true->lst L m) (hi:¬lst L i) (hw:e.wt=true) (hk1:d9 e.o.op=1):xrd P e.tm S e.o.op=some e.r:=by
 have hei:e.i=i:=(F.at_ he).2.2;have hmem:∀ {j:Nat} {y:Ent},l[j]? =some y->y∈l.reverse:=fun h=>List.mem_reverse.2 (bG4 h)
 have hget:∀ {y:Ent},y∈l.reverse-> ∃j,l[j]? =some y/\y.i=j:=fun h=>by
  obtain⟨j,hj⟩:=bK9.1 (List.mem_reverse.1 h);exact⟨j,hj,(F.at_ hj).2.2⟩
 have hall : O4 l.reverse e k = true := by
  unfold O4;rw[bI4];intro y hy;obtain⟨j,hj,hyi⟩:=hget hy;cases hW:isW y with
  |false=>rfl
  | true =>
   have h3:d9 y.o.op=3:=bF9 hW;rw[bH1];rw[hyi,hei]
   by_cases hlt:j<k
   ·rw[show Nat.blt j k=true from bG1 hlt,bH1]
    have hlj:=(V.wr j y hj h3).2 hlt;cases hb:y.pre.testBit i with
    |false=>rfl
    |true=>exact absurd (V.down j y hj hlj i hb) hi
   ·have hb : Nat.blt j k = false := by
     cases hb:Nat.blt j k
     ·rfl
     ·have:j<k:=bF8 hb;omega
    rw[hb,bH2];cases hb2:e.pre.testBit j with
    |false=>rfl
    |true=>exact absurd ((V.wr j y hj h3).1 (hpre j hb2)) hlt
 obtain⟨tm',S',I',hs,hc'⟩:=(F.chain.get he).2;have hr:=hs.k1 hw hk1;have concl:ao6 P l.reverse e k S=true->xrd P e.tm S e.o.op=some e.r:=by
  intro hl;unfold ao6 at hl;cases ho:own l.reverse e k with
  |true=>
   have hno:∀(j:Nat) y,l[j]? =some y->d9 y.o.op=3->(j<k↔j<i):=by
    intro j y hj h3;unfold own at ho;rw[bI4]at ho;have:=ho y (hmem hj);have hW:isW y=true:=j9 h3;rw[hW,bH1,(F.at_ hj).2.2,hei]at this
    constructor
    ·intro hlt
     rw[show Nat.blt j k=true from bG1 hlt]at this;have:Nat.blt j i=true:=by simpa using this
     exact bF8 this
    ·intro hlt
     rw[show Nat.blt j i=true from bG1 hlt]at this;have:Nat.blt j k=true:=by simpa using this
     exact bF8 this
   have hki:k<=i:=by
    rcases V.norm with⟨h0,_⟩| ⟨y,h0,hy,h3,_⟩
    ·omega
    ·have:=(hno (k-1) y hy h3).1 (by omega)
     omega
   obtain⟨tmk,hcut⟩:=V.cut;have hS:=(aG4 hcut he hki (fun j y hj h1 h2 h3=>by have:=(hno j y hj h3).2 h2;omega)).1
   rw[<-hS];exact hr
  |false=>
   rw[ho,bH2,hall,bH1]at hl;split at hl
   ·rename_i v hv
    rw[hv,ap5 _ _ _ hl]
   ·cases hl
 have hd:=F.dyn;unfold Xe.dyn at hd;rw[bI4]at hd;have h0:=hd e (hmem he);have hcond:(e.wt&&Nat.beq (d9 e.o.op) 1)=true:=by rw[hw,j9 hk1];rfl
 rw[hcond,bH1,bF5,bI4]at h0
 rcases V.norm with⟨hk,hS⟩| ⟨y,hk,hy,h3,hS⟩
 ·subst hk;subst hS
  exact concl h0.1
 ·have:=h0.2 y (hmem hy)
  have hW:isW y=true:=j9 h3;rw[hW,bH1,(F.at_ hy).2.2,show k-1+1=k by omega]at this
  rw[<-hS]at this;exact concl this
set_option maxHeartbeats 1000000 in
theorem Fix.step {σ0 : Sg} {D : List Deferred} {L : Array Bool} {a : Act} {w : World} {σ : Sg} {k : Nat} {S : Hp} {I : Nat} (hcall : D7 P call) (V : Inv B w0 P call nt ops nx0 l tm0 tmN S0 SN IN σ0 D L a w σ k S I)
  {i:Nat} (hr:i∈Region.ready .any ops L) (Q:Exit->Act->World->Prop) (r:Option Nat):
  wpOpIn (RF r) 0 P ops Q i (fun a' w'=>∃σ' k' S' I',Inv B w0 P call nt ops nx0 l tm0 tmN S0 SN IN σ0 D (L.setIfInBounds i true) a' w' σ' k' S' I') a w:=by
 obtain⟨hun,o,ho,hall⟩:=mem_ready.1 hr;obtain⟨hiL,hni⟩:=aB3 hun;obtain⟨e,he,heo⟩:=F.ent ho;have hei:e.i=i:=(F.at_ he).2.2;have hilen:i<l.length:=(bF7.1 he).1;have hpre:∀m,e.pre.testBit m=true->lst L m:=by
  intro m hm;obtain⟨ed,hed,hb,h⟩:=(F.p1 he).1 m hm;have hon:lst L ed.on:=hall ed (by rw[<-heo];simpa using hed) hb
  rcases h with h|h
  ·rw[<-h];exact hon
  ·have hlt:=(F.p1 he).2 ed hed hb
   have hon':ed.on<l.length:=by omega
   obtain⟨e',he'⟩:∃e',l[ed.on]? =some e':=⟨l[ed.on],by simp[hon']⟩
   exact V.down ed.on e' he' hon m (by rw[(F.at_ he').2.1];exact h)
 obtain⟨tm',S',I',hs,hcn⟩:=(F.chain.get he).2;simp only[bO4]at hs hcn;have hcn':∃tmk,H5 P call nt ops.toList nx0 tmN SN IN (l.take (i+1)).reverse (l.drop (i+1)) tmk S' I':=by
  refine⟨tm',?_⟩;have:e::(l.take i).reverse=(l.take (i+1)).reverse:=by
   rw[List.take_succ_eq_append_getElem hilen,List.reverse_append];have:l[i]=e:=by simpa [hilen]using he
   simp[this]
  rw[<-this];exact hcn
 have hseen:∀t,(ay0 ops.toList o).testBit t=true->VR σ ((e.tm.get t).getD undef) (a.tmps.getD t undef):=fun t ht=>F.seen V he hpre hni (by rw[heo];exact ht)
 have hER:∀x∈o.op.operands,∀v,d6 e.tm x=some v->VR σ v (a.eval x):=by
  intro x hx v hv;cases x with
  |tmp t=>
   simp only[d6,bF4]at hv;subst hv;exact hseen t (ay1.2 (.inr (by simpa using hx)))
  |const c=>
   simp only[d6]at hv;cases hc:cst c with
   |false=>simp[hc]at hv
   |true=>simp[hc]at hv;subst hv;exact M4 σ hc
  |global g=>simp[d6]at hv
  |func f=>
   simp only[d6,bF4]at hv;subst hv;exact .func _ _ _ _ _ rfl (fun i x y h _=>by simp at h) rfl (fun i x y h _=>by simp at h)
 have hwant:Region.wanted o (yielded ops a.tmps)=e.wt:=by
  rw[hs.wt,heo];exact aY0 ops o fun g want p d hg hp hd=>hseen d (ay1.2 (.inl ⟨g,want,p,hg,hp,hd⟩))
 have hdst:∀(j:Nat) e' t,l[j]? =some e'->j≠i->e'.o.dst=some t->o.dst≠some t:=fun j e' t hj hne ht=>by rw[<-heo];exact(F.p2 he hj (Ne.symm hne)).1 t ht
 have build : ∀ (u : Value) (σ' : Sg) (w' : World) (k' : Nat) (S2 : Hp) (I2 : Nat), Sg.le σ σ' → VR σ' e.r u →
   (∃tmk,H5 P call nt ops.toList nx0 tmN SN IN (l.take k').reverse (l.drop k') tmk S2 I2)->
   ((k'=0/\S2=S0)\/ ∃e,0<k'/\l[k'-1]? =some e/\d9 e.o.op=3/\S2=e.S2)->
   (∀(j:Nat) e,l[j]? =some e->d9 e.o.op=3->(lst (L.setIfInBounds i true) j↔j<k'))->
   HR B w0 σ' S2 w'->Sg.gr nx0 S2.nx σ0 σ'->nx0+ops.size<=S2.nx->
   (∀(j:Nat) e n,l[j]? =some e->e.nw=some n-> ¬lst (L.setIfInBounds i true) j->σ' (nx0+j)=none)->
   (∀(j:Nat) e n,l[j]? =some e->e.nw=some n->lst (L.setIfInBounds i true) j->I2.testBit j=false-> ∃b,Ext B σ' S2 w' (nx0+j) n b)->
   (∀(j j':Nat) e e' n n' b b',l[j]? =some e->l[j']? =some e'->e.nw=some n->e'.nw=some n'->j≠j'->lst (L.setIfInBounds i true) j->lst (L.setIfInBounds i true) j'->I2.testBit j=false->I2.testBit j'=false->
    Ext B σ' S2 w' (nx0+j) n b->Ext B σ' S2 w' (nx0+j') n' b'->b≠b')->
   Inv B w0 P call nt ops nx0 l tm0 tmN S0 SN IN σ0 D (L.setIfInBounds i true) (a.put o.dst u) w' σ' k' S2 I2:=by
  intro u σ' w' k' S2 I2 hle hv h1 h2 h3 h4 h5 h6 h7 h8 h9;have hput:∀t,o.dst≠some t->(a.put o.dst u).tmps.getD t undef=a.tmps.getD t undef:=by
   intro t ht;cases hd:o.dst with
   |none=>rfl
   |some d=>
    have hne:d≠t:=fun h=>ht (by rw[hd,h])
    simp[Act.put,bP6 hne]
  have hputs:∀t,o.dst=some t->(a.put o.dst u).tmps.getD t undef=u:=by
   intro t ht;have hb:B6 nt o.dst=true:=by rw[<-heo];exact hs.dst
   rw[ht]at hb⊢;have hlt:t<a.tmps.size:=by rw[V.tsz];exact bF8 hb
   simp[Act.put,hlt]
  refine⟨by simpa using V.size,?_,by rw[M8];exact V.defers,?_,?_,?_,h1,h2,h3,h4,h5,h6,h7,h8,h9⟩
  ·intro j e' hj hlj m hm
   rw[y6 hiL]at hlj⊢
   rcases hlj with hlj|rfl
   ·exact .inl (V.down j e' hj hlj m hm)
   ·have:e'=e:=bI0 (hj.symm.trans he)
    subst this;exact .inl (hpre m hm)
  ·cases hd:o.dst<;>simp[Act.put,V.tsz]
  ·intro j e' t hj hlj ht
   rw[y6 hiL]at hlj
   by_cases hji:j=i
   ·subst hji
    have:e'=e:=bI0 (hj.symm.trans he);subst this;rw[hputs t (by rw[<-heo];exact ht)]
    exact hv
   ·rw[hput t (hdst j e' t hj hji ht)]
    exact(V.tin j e' t hj (hlj.resolve_right hji) ht).mono hle
  ·intro t hno
   have hoi:o.dst≠some t:=by rw[<-heo];exact hno i e he ((y6 hiL).2 (.inr rfl))
   rw[hput t hoi];exact(V.tout t fun j e' hj hlj=>hno j e' hj ((y6 hiL).2 (.inl hlj))).mono hle
 have calm : ∀ (u : Value) (σ' : Sg) (w' : World), d9 o.op ≠ 3 → (e.nw = none) → Sg.gr S.nx S.nx σ σ' → VR σ' e.r u → HR (rest B σ S w) w σ' S w' →
   ∃σ' k' S' I',Inv B w0 P call nt ops nx0 l tm0 tmN S0 SN IN σ0 D (L.setIfInBounds i true) (a.put o.dst u) w' σ' k' S' I':=by
  intro u σ' w' hk hnw hgr hv hk';refine⟨σ',k,S,I,build u σ' w' k S I hgr.le hv V.cut V.norm (fun j e' hj h3=>?_) (V.hr.back hk') (Sg.gr_trans V.gr hgr) V.room (fun j e' n hj hn hlj=>?_) (fun j e' n hj hn hlj hI=>?_) (fun j j' e1 e2 n1 n2 b1 b2 hj hj' hn1 hn2 hne hl1 hl2 hI1 hI2 x1 x2=>?_)⟩
  ·rw[y6 hiL,<-V.wr j e' hj h3]
   constructor
   ·rintro (h|rfl)
    ·exact h
    ·have:e'=e:=bI0 (hj.symm.trans he)
     subst this;exact absurd h3 (by rw[heo];exact hk)
   ·exact .inl
  ·have hlj':¬lst L j:=fun h=>hlj ((y6 hiL).2 (.inl h))
   have hjn:j<l.length:=(bF7.1 hj).1;rw[hgr.low _ (by have:=V.room;have:=F.len;omega)]
   exact V.none j e' n hj hn hlj'
  ·have hji:j≠i:=by rintro rfl;rw[bI0 (hj.symm.trans he),hnw]at hn;cases hn
   rw[y6 hiL]at hlj;obtain⟨b,hb⟩:=V.ext j e' n hj hn (hlj.resolve_right hji) hI;exact⟨b,hb.step hk' hgr.le⟩
  ·have hji:j≠i:=by rintro rfl;rw[bI0 (hj.symm.trans he),hnw]at hn1;cases hn1
   have hji':j'≠i:=by rintro rfl;rw[bI0 (hj'.symm.trans he),hnw]at hn2;cases hn2
   rw[y6 hiL]at hl1 hl2;obtain⟨c1,y1⟩:=V.ext j e1 n1 hj hn1 (hl1.resolve_right hji) hI1;obtain⟨c2,y2⟩:=V.ext j' e2 n2 hj' hn2 (hl2.resolve_right hji') hI2;have uniq:∀ {id:Nat} {n:Nw} {b c:Nat},Ext B σ S w id n c->Ext B σ' S w' id n b->b=c:=by
    intro id n b c hx hy;obtain⟨p,_,p1,p2,_⟩:=hx;obtain⟨q,_,q1,q2,_⟩:=hy;have:=(hgr.le _ _ p1).symm.trans q1;have:p=q:=bI0 this;rw[<-p2,<-q2,this]
   rw[uniq y1 x1,uniq y2 x2];exact V.apart j j' e1 e2 n1 n2 c1 c2 hj hj' hn1 hn2 hne (hl1.resolve_right hji) (hl2.resolve_right hji') hI1 hI2 y1 y2
 have hwr:d9 o.op=3->e.S=S/\e.I=I/\k<=i/\ ∀(j:Nat) e',l[j]? =some e'->d9 e'.o.op=3->(lst (L.setIfInBounds i true) j↔j<i+1):=by
  intro h3;have h3e:d9 e.o.op=3:=by rw[heo];exact h3
  have hki:k<=i:=by
   rcases Nat.lt_or_ge i k with h|h
   ·exact absurd ((V.wr i e he h3e).2 h) hni
   ·exact h
  obtain⟨tmk,hcut⟩:=V.cut;have hlt:∀(j:Nat) e',l[j]? =some e'->d9 e'.o.op=3->j<i->lst L j:=fun j e' hj k3 hlt=>hpre j ((F.p2 he hj (by omega)).2.2 h3e k3 hlt)
  have hst:=aG4 hcut he hki (fun j e' hj h1 h2 k3=>by have:=(V.wr j e' hj k3).1 (hlt j e' hj k3 h2);omega)
  refine⟨hst.1,hst.2,hki,fun j e' hj k3=>?_⟩
  rw[y6 hiL]
  constructor
  ·rintro (h|rfl)
   ·rcases Nat.lt_or_ge i j with h'|h'
    ·exact absurd (V.down j e' hj h i ((F.p2 hj he (by omega)).2.2 k3 h3e h')) hni
    ·omega
   ·omega
  ·intro h
   by_cases hji:j=i
   ·exact .inr hji
   ·exact .inl (hlt j e' hj k3 (by omega))
 unfold wpOpIn;simp only[ho];rw[hwant];cases hwt:e.wt with
 |false=>
  rw[bH4 (by simp)]
  refine⟨fun _ _=>trivial,?_⟩
  obtain⟨hru,hnw⟩:=hs.un hwt
  by_cases h3:d9 o.op=3
  ·obtain⟨e1,e2,hki,hw3⟩:=hwr h3
   obtain⟨l1,l2⟩:=hs.low (.inl hwt);have h3e:d9 e.o.op=3:=by rw[heo];exact h3
   refine⟨σ,i+1,S',I',build undef σ w (i+1) S' I' (Sg.le_refl σ) (by rw[hru];exact VR.undef σ) hcn' (.inr ⟨e,by omega,he,h3e,hs.S2.symm⟩) hw3
    (by rw[l1,e1];exact V.hr) (by rw[l1,e1];exact V.gr) (by rw[l1,e1];exact V.room) (fun j e' n hj hn hlj=>?_) (fun j e' n hj hn hlj hI=>?_) (fun j j' f1 f2 n1 n2 b1 b2 hj hj' hn1 hn2 hne hl1 hl2 hI1 hI2 x1 x2=>?_)⟩
   ·exact V.none j e' n hj hn (fun h=>hlj ((y6 hiL).2 (.inl h)))
   ·have hji:j≠i:=by rintro rfl;rw[bI0 (hj.symm.trans he),hnw]at hn;cases hn
    rw[y6 hiL]at hlj;rw[l1,e1];rw[l2,e2]at hI;exact V.ext j e' n hj hn (hlj.resolve_right hji) hI
   ·have hji:j≠i:=by rintro rfl;rw[bI0 (hj.symm.trans he),hnw]at hn1;cases hn1
    have hji':j'≠i:=by rintro rfl;rw[bI0 (hj'.symm.trans he),hnw]at hn2;cases hn2
    rw[y6 hiL]at hl1 hl2;rw[l1,e1]at x1 x2;rw[l2,e2]at hI1 hI2;exact V.apart j j' f1 f2 n1 n2 b1 b2 hj hj' hn1 hn2 hne (hl1.resolve_right hji) (hl2.resolve_right hji') hI1 hI2 x1 x2
  ·exact calm undef σ w h3 hnw (Sg.gr_refl _ σ) (by rw[hru];exact VR.undef σ) V.hr.max
 | true =>
  rw[bH6 rfl]
  by_cases h0:d9 o.op=0
  ·have hx:=hs.k0 hwt (by rw[heo];exact h0) S
   rw[heo]at hx;exact W7 hcall hx hER V.hr.max _ Q (fun σ' u w' hgr hv hw'=>calm u σ' w' (by omega) (hs.nw (by rw[heo];omega)) hgr hv hw') r
  by_cases h1:d9 o.op=1
  ·have hx:=bB8 (call:=call) (by rw[heo];exact h1) (F.read V he hpre hni hwt (by rw[heo];exact h1))
   rw[heo]at hx;exact W7 hcall hx hER V.hr.max _ Q (fun σ' u w' hgr hv hw'=>calm u σ' w' (by omega) (hs.nw (by rw[heo];omega)) hgr hv hw') r
  by_cases h2:d9 o.op=2
  ·obtain ⟨n, hx, hrv, hnw⟩ := hs.k2 hwt (by rw [heo]; exact h2)
   rw[heo]at hx;obtain⟨sm,hes,hlen,ob,siz,z,hbr,hrun⟩:=aJ4 (σ:=σ) hx hER;have hid:σ (nx0+i)=none:=V.none i e n he hnw hni;have hlt:nx0+i<S.nx:=by have:=V.room;have:=F.len;omega
   obtain⟨hl1,hl2⟩:=V.hr.lay hid hlt n (p:=⟨w.heap.size,0,siz,z⟩) rfl (hbr _);have hle:=Sg.le_ext (σ:=σ) (i:=nx0+i) ⟨w.heap.size,0,siz,z⟩ hid;refine f7 (fun c hc=>by rw[hc]at h2;cases h2) ?_
   unfold Oper.wp;rw[hes,bI3,hrun w,bH9,bI8,bP4];refine⟨_,k,S,I,build _ _ _ k S I hle ?_ V.cut V.norm (fun j e' hj h3=>?_) hl1 ⟨Sg.le_trans V.gr.le hle,fun j hj=>(Sg.ext_other _ _ _ (by omega)).trans (V.gr.low j hj),V.gr.nx⟩ V.room (fun j e' n' hj hn hlj=>?_) (fun j e' n' hj hn hlj hI=>?_)
    (fun j j' f1 f2 n1 n2 b1 b2 hj hj' hn1 hn2 hne hlj1 hlj2 hI1 hI2 x1 x2=>?_)⟩
   ·rw[hrv,hei]
    exact Nw.val_VR hlen _ _ _ _
   ·rw[y6 hiL,<-V.wr j e' hj h3]
    constructor
    ·rintro (h|rfl)
     ·exact h
     ·have:e'=e:=bI0 (hj.symm.trans he)
      subst this;rw[heo]at h3;omega
    ·exact .inl
   ·have hji:j≠i:=by rintro rfl;exact hlj ((y6 hiL).2 (.inr rfl))
    rw[Sg.ext_other _ _ _ (by omega)]
    exact V.none j e' n' hj hn (fun h=>hlj ((y6 hiL).2 (.inl h)))
   ·by_cases hji:j=i
    ·subst hji
     have:e'=e:=bI0 (hj.symm.trans he);subst this;have:n'=n:=bI0 (hn.symm.trans hnw);subst this;exact⟨_,hl2⟩
    ·rw[y6 hiL]at hlj
     obtain⟨b,hb⟩:=V.ext j e' n' hj hn (hlj.resolve_right hji) hI;exact⟨b,hb.lay V.hr hid _ _⟩
   ·
    have old : ∀ (j : Nat) (f : Ent) (n' : Nw) (b : Nat), l[j]? = some f → f.nw = some n' → j ≠ i → lst (L.setIfInBounds i true) j → I.testBit j = false →
      Ext B (σ.ext (nx0+i) ⟨w.heap.size,0,siz,z⟩) S (w.alloc ob) (nx0+j) n' b->Ext B σ S w (nx0+j) n' b/\b<w.heap.size:=by
     intro j f n' b hj hn hji hlj hI hx;rw[y6 hiL]at hlj;obtain⟨c,hc⟩:=V.ext j f n' hj hn (hlj.resolve_right hji) hI;have hcc:=hc;obtain⟨p,C,p1,p2,p5,_⟩:=hc;obtain⟨q,_,q1,q2,_⟩:=hx;have:=(hle _ _ p1).symm.trans q1;have:p=q:=bI0 this;have hbc:b=c:=by rw[<-p2,<-q2,this]
     subst hbc;exact⟨hcc,(bG9.1 p5).1⟩
    have new:∀(n':Nw) (b:Nat),Ext B (σ.ext (nx0+i) ⟨w.heap.size,0,siz,z⟩) S (w.alloc ob) (nx0+i) n' b->b=w.heap.size:=by
     intro n' b hx;obtain⟨q,_,q1,q2,_⟩:=hx;rw[Sg.ext_same]at q1;rw[<-q2,<-bI0 q1]
    by_cases hji:j=i
    ·subst hji
     have hj2:j'≠j:=Ne.symm hne;have:=(old j' f2 n2 b2 hj' hn2 hj2 hlj2 hI2 x2).2;rw[new n1 b1 x1];omega
    ·by_cases hji':j'=i
     ·subst hji'
      have:=(old j f1 n1 b1 hj hn1 hji hlj1 hI1 x1).2;rw[new n2 b2 x2];omega
     ·have o1:=(old j f1 n1 b1 hj hn1 hji hlj1 hI1 x1).1
      have o2:=(old j' f2 n2 b2 hj' hn2 hji' hlj2 hI2 x2).1;rw[y6 hiL]at hlj1 hlj2;exact V.apart j j' f1 f2 n1 n2 b1 b2 hj hj' hn1 hn2 hne (hlj1.resolve_right hji) (hlj2.resolve_right hji') hI1 hI2 o1 o2
  ·
   have h3:d9 o.op=3:=by have:=az2 o.op;omega
   have h3e:d9 e.o.op=3:=by rw[heo];exact h3
   obtain⟨e1,e2,hki,hw3⟩:=hwr h3;obtain⟨hx,hI'⟩:=hs.k3 hwt (by omega)
   rw[heo,e1,e2]at hx;rw[e2]at hI';obtain⟨T1,T2,T3⟩:=F.takes V (i:=i) (by omega) (aE5 e.pre I) (fun j hj hm=>by
    simp only[aE5,bF5,bK0]at hm;exact⟨hpre j hm.1,hm.2⟩)
   refine W7 hcall hx hER T1.max _ Q (fun σ' u w' hgr hv hw'=>?_) r
   rw[T2]at hgr;have keep:∀(j:Nat) (f:Ent) (n:Nw),l[j]? =some f->f.nw=some n->lst L j->I'.testBit j=false-> ∃b,Ext B σ S w (nx0+j) n b/\Ext B σ' S' w' (nx0+j) n b:=by
    intro j f n hj hn hlj hI;rw[hI',Nat.testBit_or,bR0]at hI;obtain⟨b,hb⟩:=V.ext j f n hj hn hlj hI.1;exact⟨b,hb,(T3 j f n b hj hn hlj hI.1 (fun _=>by simp[aE5,hI.2]) hb).step hw' hgr.le⟩
   have hnw:e.nw=none:=hs.nw (by omega)
   refine⟨σ',i+1,S',I',build u σ' w' (i+1) S' I' hgr.le hv hcn' (.inr ⟨e,by omega,he,h3e,hs.S2.symm⟩) hw3 (T1.back hw') (Sg.gr_trans V.gr hgr) (by have:=V.room;have:=hgr.nx;omega) (fun j e' n hj hn hlj=>?_) (fun j e' n hj hn hlj hI=>?_)
    (fun j j' f1 f2 n1 n2 b1 b2 hj hj' hn1 hn2 hne hl1 hl2 hI1 hI2 x1 x2=>?_)⟩
   ·have hjn:j<l.length:=(bF7.1 hj).1
    rw[hgr.low _ (by have:=V.room;have:=F.len;omega)]
    exact V.none j e' n hj hn (fun h=>hlj ((y6 hiL).2 (.inl h)))
   ·have hji:j≠i:=by rintro rfl;rw[bI0 (hj.symm.trans he),hnw]at hn;cases hn
    rw[y6 hiL]at hlj;obtain⟨b,_,hb⟩:=keep j e' n hj hn (hlj.resolve_right hji) hI;exact⟨b,hb⟩
   ·have hji:j≠i:=by rintro rfl;rw[bI0 (hj.symm.trans he),hnw]at hn1;cases hn1
    have hji':j'≠i:=by rintro rfl;rw[bI0 (hj'.symm.trans he),hnw]at hn2;cases hn2
    rw[y6 hiL]at hl1 hl2;obtain⟨c1,y1,z1⟩:=keep j f1 n1 hj hn1 (hl1.resolve_right hji) hI1;obtain⟨c2,y2,z2⟩:=keep j' f2 n2 hj' hn2 (hl2.resolve_right hji') hI2;have uniq:∀ {id:Nat} {n:Nw} {b c:Nat},Ext B σ' S' w' id n c->Ext B σ' S' w' id n b->b=c:=by
     intro id n b c hx hy;obtain⟨p,_,p1,p2,_⟩:=hx;obtain⟨q,_,q1,q2,_⟩:=hy;have:p=q:=bI0 (p1.symm.trans q1);rw[<-p2,<-q2,this]
    rw[uniq z1 x1,uniq z2 x2];rw[hI',Nat.testBit_or,bR0]at hI1 hI2;exact V.apart j j' f1 f2 n1 n2 c1 c2 hj hj' hn1 hn2 hne (hl1.resolve_right hji) (hl2.resolve_right hji') hI1.1 hI2.1 y1 y2
theorem Fix.all {L:Array Bool}(hsz:L.size=ops.size)(hr:Region.ready .any ops L=[]):∀j,j<ops.size->lst L j:=by
 intro j
 induction j using Nat.strongRecOn with
 |_ j ih=>
  intro hj
  by_cases hl:lst L j
  ·exact hl
  ·exfalso
   have hm:j∈Region.ready .any ops L:=by
    refine mem_ready.2 ⟨?_,ops[j],by simp[hj],fun ed hed hb=>?_⟩
    ·unfold lst at hl
     have:j<L.size:=by omega
     simp[this]at hl⊢;exact hl
    ·obtain⟨e,he,heo⟩:=F.ent (o:=ops[j]) (j:=j) (by simp[hj])
     have:=(F.p1 he).2 ed (by rw[heo];simpa using hed) hb
     exact ih ed.on this (by omega)
   rw[hr]at hm;cases hm
theorem Fix.ends {σ0 : Sg} {D : List Deferred} {L : Array Bool} {a : Act} {w : World} {σ : Sg} {k : Nat} {S : Hp} {I : Nat} (V : Inv B w0 P call nt ops nx0 l tm0 tmN S0 SN IN σ0 D L a w σ k S I)
  (hall:∀j,j<ops.size->lst L j):ak5 nx0 B w0 σ0 nt .normal tmN (Xe.takes nx0 (aE4 IN) l.reverse SN) D .normal a w:=by
 obtain⟨tmk,hcut⟩:=V.cut;have hlist:∀ {j:Nat} {e:Ent},l[j]? =some e->lst L j:=fun h=>hall _ (by have:=(bF7.1 h).1;have:=F.len;omega)
 have hst:=hcut.still (fun e hm=>by
  obtain⟨m,hm2⟩:=bK9.1 hm;rw[bJ3]at hm2;intro h3;have:=(V.wr _ e hm2 h3).1 (hlist hm2);omega)
 obtain⟨T1,T2,_⟩:=F.takes V (i:=l.length) (bH7 _) (aE4 IN) (fun j hj hm=>by
  have:l[j]? =some l[j]:=by simp[hj]
  refine⟨hlist this,?_⟩;rw[<-hst.2]
  simpa [aE4]using hm)
 rw[List.take_length]at T1 T2;rw[<-hst.1]at T1 T2;refine⟨rfl,V.defers,σ,by rw[T2,hst.1];exact V.gr,⟨V.tsz,fun t=>?_⟩,T1⟩
 by_cases hx:∃(j:Nat) (e:Ent),l[j]? =some e/\e.o.dst=some t
 ·obtain⟨j,e,hj,hd⟩:=hx
  rw[F.chain.tm_some hj hd (fun m e2 hm hne hd2=>(F.p2 hm hj hne).1 t hd hd2)]
  exact V.tin j e t hj (hlist hj) hd
 ·rw [F.chain.tm_none (fun e he hd => by
   obtain⟨m,hm⟩:=bK9.1 he;exact hx ⟨m,e,hm,hd⟩)]
  exact V.tout t (fun j e hj _ hd=>hx ⟨j,e,hj,hd⟩)
omit F
def ar9 (L:Array Bool):Nat:=(L.toList.filter (fun b=> !b)).length
theorem ax3 :∀(l:List Bool) (i:Nat),l[i]? =some false->((l.set i true).filter (fun b=> !b)).length+1=(l.filter (fun b=> !b)).length
 | [],i,h=>by simp at h
 |b::l,0,h=>by simp at h;subst h;simp
 |b::l,i+1,h=>by
  have:=ax3 l i (by simpa using h)
  cases b<;>simp[this]
theorem al6 {L:Array Bool}{i:Nat}(h:L.getD i true=false):ar9 (L.setIfInBounds i true)+1=ar9 L:=by
 have hi:=(aB3 h).1;unfold ar9;rw[Array.toList_setIfInBounds];refine ax3 L.toList i ?_;simp[hi]at h⊢;exact h
include F
theorem Fix.any {σ0 : Sg} {D : List Deferred} (hcall : D7 P call) (r : Option Nat) : ∀ (fuel : Nat) (L : Array Bool) (a : Act) (w : World) (σ : Sg) (k : Nat) (S : Hp) (I : Nat), ar9 L = fuel → Inv B w0 P call nt ops nx0 l tm0 tmN S0 SN IN σ0 D L a w σ k S I →
  wpAnyIn (RF r) 0 P .any ops (ak5 nx0 B w0 σ0 nt .normal tmN (Xe.takes nx0 (aE4 IN) l.reverse SN) D) fuel L a w:=by
 intro fuel
 induction fuel with
 |zero=>
  intro L a w σ k S I hf V;have hr:Region.ready .any ops L=[]:=by
   cases hrd:Region.ready .any ops L with
   |nil=>rfl
   |cons i r=>
    have:i∈Region.ready .any ops L:=by rw[hrd];simp
    have:=al6 (mem_ready.1 this).1;omega
  exact⟨hr,F.ends V (F.all V.size hr)⟩
 |succ fuel ih=>
  intro L a w σ k S I hf V;refine⟨fun hr=>F.ends V (F.all V.size hr),fun i hi=>?_⟩
  have hop:=al6 (mem_ready.1 hi).1;refine wpOpIn_mono (fun a' w' hV=>?_) (F.step hcall V hi _ r)
  obtain⟨σ',k',S',I',V'⟩:=hV;exact ih _ a' w' σ' k' S' I' (by omega) V'
end
theorem ap8 {P : Program} {call : f9} (hcall : D7 P call) {nt : Nat} {ops : Array Oper} {tm : T Value} {hp : Hp} {tm' : T Value} {hp' : Hp} (h : ah4 P call nt ops.toList tm hp = some (tm', hp')) {B : BS} {w0 : World} {σ : Sg} {a : Act} {w : World} (ht : TR σ nt tm a.tmps) (hw : HR B w0 σ hp w) (r : Option Nat) :
  wpAnyIn (RF r) 0 P .any ops (ak5 hp.nx B w0 σ nt .normal tm' hp' a.defers) ops.size (Array.replicate ops.size false) a {w with drawn:=w.drawn+1}:=by
 unfold ah4 at h;cases hst:stat ops.toList (R4 ops.toList [])with
 |false=>rw[hst]at h;cases h
 |true=>
  rw[hst,bH1]at h;split at h
  ·rename_i out hgo
   cases hdy:dyn P ⟨hp.m,hp.nx+ops.toList.length⟩ out.es with
   |false=>rw[hdy]at h;cases h
   |true=>
    rw[hdy,bH1]at h;simp only[bF4,bF6]at h;obtain⟨rfl,rfl⟩:=h;obtain⟨l,h1,h2,h3⟩:=bo7 _ 0 tm _ 0 [] out hgo rfl;rw[bO4]at h1;have F:Fix P call nt ops (R4 ops.toList []) hp.nx l tm out.tm ⟨hp.m,hp.nx+ops.toList.length⟩ out.S out.I:=⟨hst,by rw[<-h1];exact hdy,h2,h3⟩
    rw[h1];have hopen:ar9 (Array.replicate ops.size false)=ops.size:=by simp[ar9]
    refine F.any (B:=B) (w0:=w0) (σ0:=σ) hcall r ops.size _ a _ σ 0 ⟨hp.m,hp.nx+ops.toList.length⟩ 0 hopen ?_;have hno:∀j,¬lst (Array.replicate ops.size false) j:=by
     intro j hl;unfold lst at hl
     by_cases hj:j<ops.size<;>simp[hj]at hl
    have hr:HR B w0 σ ⟨hp.m,hp.nx+ops.toList.length⟩ w.drew:=
     hw.drew.sub (Nat.le_add_right _ _) fun i b hg=>hg
    refine⟨by simp,fun j e hj hl=>absurd hl (hno j),rfl,ht.size,fun j e t hj hl=>absurd hl (hno j),fun t _=>ht.at_ t,⟨tm,by simpa using h3⟩,.inl ⟨rfl,rfl⟩,fun j e hj _=>⟨fun h=>absurd h (hno j),fun h=>by omega⟩,
     hr,⟨Sg.le_refl σ,fun _ _=>rfl,by simp⟩,by simp,fun j e n hj hn _=>?_,fun j e n hj hn hl=>absurd hl (hno j),fun j j' e e' n n' b b' hj hj' hn hn' hne hl=>absurd hl (hno j)⟩
    exact hw.fresh _ (by omega)
  ·cases h
theorem by3 {P:Program}(hm:P.follows .mixedOrders=true):X2 P (ah4 P):=
 fun _ hcall _ _ _ _ _ _ _ h _ _ _ _ _ ht hw r=>wpIn_region_any hm (ap8 hcall h ht hw r)
end Go.Xe
end PartXm15
noncomputable section PartXmD
namespace Go.Xe
open Go.RowKit
def aY3 (ops:Array Oper)(l:List Nat):Prop:=
 ∀l1 i l2,l=l1++i::l2-> ∃o,ops[i]? =some o/\ ∀e∈o.after,Region.binds .any e=true->e.on∈l1
structure M1 (ops:Array Oper)(l:List Nat):Prop where
 nodup:l.Nodup
 mem:∀i,i∈l↔i<ops.size
 behind:aY3 ops l
theorem am7 {r : Option Nat} {P : Program} {ops : Array Oper} {Q : Exit → Act → World → Prop} {l : List Nat} (hl : M1 ops l) : ∀ (l2 l1 : List Nat) (L : Array Bool) (fuel : Nat) (a : Act) (w : World), l = l1 ++ l2 → L.size = ops.size →
  (∀j,j<ops.size->(L.getD j false=true↔j∈l1))->wpAnyIn (RF r) 0 P .any ops Q fuel L a w->wpOpsIn (RF r) 0 P ops Q l2 a w:=by
 intro l2
 induction l2 with
 |nil=>
  intro l1 L fuel a w he hs hL h;rw[bO4]at he;subst he;have hr:Region.ready .any ops L=[]:=by
   cases hrd:Region.ready .any ops L with
   |nil=>rfl
   |cons i rr=>
    have hi:i∈Region.ready .any ops L:=by grind
    obtain⟨hun,o,ho,_⟩:=mem_ready.1 hi;have hlt:i<ops.size:=(bG9.1 ho).1;have h1:=(hL i hlt).2 ((hl.mem i).2 hlt)
    grind
  cases fuel with
  |zero=>exact h.2
  |succ fuel=>exact h.1 hr
 |cons i l2 ih=>
  intro l1 L fuel a w he hs hL h;have hmem:i∈l:=by grind
  have hlt:i<ops.size:=(hl.mem i).1 hmem;obtain⟨o,ho,hdep⟩:=hl.behind l1 i l2 he;have hni:i∉l1:=by
   intro hc;have:=hl.nodup
   grind
  have hi:i∈Region.ready .any ops L:=by
   refine mem_ready.2 ⟨?_,o,ho,fun e he1 hb=>?_⟩
   ·grind
   ·have hon:=hdep e he1 hb
    have honlt:e.on<ops.size:=(hl.mem _).1 (by rw[he];simp[hon])
    grind
  cases fuel with
  |zero=>rw[h.1]at hi;cases hi
  |succ fuel=>
   rw[wpOpsIn_cons];refine wpOpIn_mono (fun a' w' hh=>?_) (h.2 i hi)
   refine ih (l1++ [i]) (L.setIfInBounds i true) fuel a' w' (by rw[he];simp) (by simpa using hs) (fun j hj=>?_) hh
   have hiL:i<L.size:=by omega
   have:=y6 (L:=L) (i:=i) (j:=j) hiL;unfold lst at this
   grind
theorem bm3 {ops:Array Oper}{L:Array Bool}(hsz:L.size=ops.size)(hback:∀(i:Nat) o,ops[i]? =some o-> ∀e∈o.after,Region.binds .any e=true->e.on<i)(hr:Region.ready .any ops L=[]):∀j,j<ops.size->L.getD j false=true:=by
 intro j
 induction j using Nat.strongRecOn with
 |_ j ih=>
  intro hj;cases hg:L.getD j false with
  |true=>rfl
  |false=>
   exfalso
   have hm:j∈Region.ready .any ops L:=by
    refine mem_ready.2 ⟨?_,ops[j],by simp[hj],fun e he hb=>?_⟩
    ·grind
    ·grind
   grind
theorem bk0 {ops : Array Oper} (hback : ∀ (i : Nat) o, ops[i]? = some o → ∀ e ∈ o.after, Region.binds .any e = true → e.on < i) : ∀ (fuel t : Nat) (L : Array Bool) (l1 : List Nat), L.size = ops.size → (∀ j, j < ops.size → (L.getD j false = true ↔ j ∈ l1)) →
  l1.Nodup->(∀i∈l1,i<ops.size)->aY3 ops l1->ar9 L<=fuel->M1 ops (Region.linearise.go .any ops fuel t L l1.reverse):=by
 intro fuel;have done:∀(L:Array Bool) (l1:List Nat),L.size=ops.size->(∀j,j<ops.size->(L.getD j false=true↔j∈l1))->l1.Nodup->(∀i∈l1,i<ops.size)->aY3 ops l1->Region.ready .any ops L=[]->M1 ops l1:=by
  intro L l1 hs hL hn hm hb hr;exact⟨hn,fun i=>⟨hm i,fun hi=>(hL i hi).1 (bm3 hs hback hr i hi)⟩,hb⟩
 induction fuel with
 |zero=>
  intro t L l1 hs hL hn hm hb ho;simp only[Region.linearise.go,List.reverse_reverse];refine done L l1 hs hL hn hm hb ?_;cases hrd:Region.ready .any ops L with
  |nil=>rfl
  |cons i rr=>
   have hi:i∈Region.ready .any ops L:=by grind
   have:=al6 (mem_ready.1 hi).1;omega
 | succ fuel ih =>
  intro t L l1 hs hL hn hm hb ho;simp only[Region.linearise.go]
  change M1 ops (match(Region.ready .any ops L)[t % (Region.ready .any ops L).length]? with
   |some i=>Region.linearise.go .any ops fuel (t/ (Region.ready .any ops L).length) (L.setIfInBounds i true) (i::l1.reverse)
   |none=>l1.reverse.reverse)
  cases hi:(Region.ready .any ops L)[t % (Region.ready .any ops L).length]? with
  |none=>
   have hnil:Region.ready .any ops L=[]:=by
    cases hr:Region.ready .any ops L with
    |nil=>rfl
    |cons x xs=>
     rw[hr]at hi;have hlt:t % (x::xs).length<(x::xs).length:=Nat.mod_lt _ (by simp)
     grind
   grind
  | some i =>
   have him:=bG4 hi;obtain⟨hun,o,ho2,hdep⟩:=mem_ready.1 him;have hlt:i<ops.size:=(bG9.1 ho2).1;have hu:=aB3 hun;have hni:i∉l1:=fun hc=>hu.2 ((hL i hlt).2 hc)
   have hop:=al6 hun;have e1:i::l1.reverse=(l1++ [i]).reverse:=by simp
   simp only[];rw[e1];refine ih _ (L.setIfInBounds i true) (l1++ [i]) (by simpa using hs) (fun j hj=>?_) ?_ ?_ ?_ (by omega)
   ·have:=y6 (L:=L) (i:=i) (j:=j) hu.1
    unfold lst at this
    grind
   ·grind
   ·grind
   ·intro k1 j k2 he
    rcases List.eq_nil_or_concat k2 with rfl| ⟨k3,z,rfl⟩
    ·have h1 : l1 = k1 ∧ i = j := by
      simp_all
     grind
    ·have h1 : l1 = k1 ++ j :: k3 := by
      simp_all
     exact hb k1 j k3 h1
theorem au6 {ops:Array Oper}(hback:∀(i:Nat) o,ops[i]? =some o-> ∀e∈o.after,Region.binds .any e=true->e.on<i)(t:Nat):M1 ops (Region.schedule true ops t):=by
 simp only[Region.schedule,Bool.true_or,bO6,Region.linearise];refine bk0 hback ops.size t (Array.replicate ops.size false) [] (by simp) (fun j hj=>?_) (by simp) (fun i hi=>by cases hi) (fun k1 i k2 he=>by simp at he) ?_
 ·simp[hj]
 ·simp[ar9]
def A6 (ops:Array Oper)(x y:Nat)(g:Ground):Array Oper:=ops.modify y fun o=> {o with after:=o.after.push ⟨x,g⟩}
theorem Z4 {ops:Array Oper}{x y:Nat}{g:Ground}{i:Nat}:(A6 ops x y g)[i]? =if y=i then(ops[i]?).map fun o=> {o with after:=o.after.push ⟨x,g⟩}else ops[i]? :=by
 unfold A6
 grind
theorem M1.edge {ops : Array Oper} {x y : Nat} {g : Ground} {l1 l2 : List Nat} (h : M1 ops (l1 ++ y :: l2)) (hx : x ∈ l1) : M1 (A6 ops x y g) (l1 ++ y :: l2) := by
 refine⟨h.nodup,fun i=>by rw[h.mem i];simp[A6],fun k1 i k2 he=>?_⟩
 obtain⟨o,ho,hd⟩:=h.behind k1 i k2 he;rw[Z4]
 by_cases hi:y=i
 ·subst hi
  rw[bH6 rfl,ho];refine⟨_,rfl,fun e hee hb=>?_⟩
  rcases Array.mem_push.1 hee with hee|rfl
  ·grind
  ·have hy1 : y ∉ l1 := fun hc => by
    have:=h.nodup
    grind
   have hy2:y∉k1:=fun hc=>by
    have:=h.nodup
    grind
   have e1:l1=k1:=by
    rcases List.append_eq_append_iff.1 he with⟨c,c1,c2⟩| ⟨c,c1,c2⟩
    ·cases c with
     |nil=>grind
     |cons c0 c=>grind
    ·cases c with
     |nil=>grind
     |cons c0 c=>grind
   grind
 ·grind
theorem M1.first {ops:Array Oper}{l:List Nat}(h:M1 ops l){x y:Nat}(hx:x<ops.size)(hy:y<ops.size)(hne:x≠y):(∃l1 l2,l=l1++y::l2/\x∈l1)\/(∃l1 l2,l=l1++x::l2/\y∈l1):=by
 obtain⟨l1,l2,e⟩:=List.append_of_mem ((h.mem y).2 hy);have hxl:=(h.mem x).2 hx;rw[e]at hxl
 rcases bJ1.1 hxl with h1|h1
 ·grind
 ·rcases bJ2.1 h1 with h1|h1
  ·grind
  ·obtain⟨m1,m2,e2⟩:=List.append_of_mem h1
   grind
structure bp8 (ops ops':Array Oper)(ρ:Nat->Nat):Prop where
 get:∀(i:Nat) o,ops[i]? =some o-> ∃o',ops'[ρ i]? =some o'/\o'.op=o.op/\o'.dst=o.dst/\o'.type=o.type/\o'.guard=o.guard.map (fun g=>(ρ g.1,g.2))
 yielded:∀tmps (i:Nat) o g,ops[i]? =some o->o.guard=some g->yielded ops' tmps (ρ g.1)=yielded ops tmps g.1
theorem bd0 {F:Fence}{n:Nat}{P:Program}{o o':Oper}{a:Act}{w:World}{K:Act->World->Prop}{Q:Exit->Act->World->Prop}(h1:o'.op=o.op)(h2:o'.dst=o.dst)(h3:o'.type=o.type)(h:o'.wpIn F n P a w K Q):o.wpIn F n P a w K Q:=by
 obtain⟨d,op,ty,ps,af,g⟩:=o;obtain⟨d',op',ty',ps',af',g'⟩:=o';simp only at h1 h2 h3;subst h1 h2 h3;exact h
theorem I8 {F:Fence}{n:Nat}{P:Program}{ops ops':Array Oper}{ρ:Nat->Nat}(ha:bp8 ops ops' ρ){Q:Exit->Act->World->Prop}:∀(l:List Nat) {a:Act} {w:World},(∀i∈l,i<ops.size)->wpOpsIn F n P ops' Q (l.map ρ) a w->wpOpsIn F n P ops Q l a w
 | [],_,_,_,h=>h
 |i::l,a,w,hl,h=>by
  have hlt:=hl i (by simp)
  have ho:ops[i]? =some ops[i]:=by simp[hlt]
  obtain⟨o',h1,h2,h3,h4,h5⟩:=ha.get i _ ho;have hl':∀j∈l,j<ops.size:=fun j hj=>hl j (by simp[hj])
  have hwant:Region.wanted o' (yielded ops' a.tmps)=Region.wanted ops[i] (yielded ops a.tmps):=by
   unfold Region.wanted;rw[h5];cases hg:ops[i].guard with
   |none=>rfl
   |some g=>
    simp only[bJ9];rw[ha.yielded a.tmps i _ g ho hg]
  simp only[bK5,wpOpsIn,h1]at h;simp only[wpOpsIn,ho];rw[hwant]at h
  by_cases hw:Region.wanted ops[i] (yielded ops a.tmps)=true
  ·rw[bH6 hw]at h⊢
   exact Oper.wpIn_mono (fun a' w' hh=>I8 ha l hl' hh) (bd0 h2 h3 h4 h)
  ·rw[bH4 hw]at h⊢
   refine⟨?_,?_⟩
   ·have:=h.1
    unfold Oper.about at this⊢
    grind
   ·have:=h.2
    rw[h3]at this;exact I8 ha l hl' this
theorem ab7 (ops:Array Oper)(x y:Nat)(g:Ground):bp8 ops (A6 ops x y g) id:=by
 refine⟨fun i o ho=>?_,fun tmps i o g' _ _=>?_⟩
 ·show∃o',(A6 ops x y g)[i]? =some o'/\_
  rw[Z4]
  by_cases hi:y=i
  ·simp_all
  ·simp_all
 ·show yielded (A6 ops x y g) tmps g'.1=yielded ops tmps g'.1
  unfold yielded;rw[Z4]
  grind
def au5 (x n j:Nat):Nat:=if j<x then j else if j=x then n-1 else if j<n then j-1 else j
def piL (x n k:Nat):Nat:=if k<x then k else if k+1=n then x else k+1
theorem av5 {x n j:Nat}(hj:j<n):au5 x n j<n:=by unfold au5;split<;>(try split)<;>(try split)<;>omega
theorem bu5 {x n k:Nat}(hx:x<n)(hk:k<n):piL x n k<n:=by unfold piL;split<;>(try split)<;>omega
theorem ad3 {x n j:Nat}(hj:j<n):piL x n (au5 x n j)=j:=by
 unfold piL au5
 grind
theorem bv4 {x n k:Nat}(hk:k<n):au5 x n (piL x n k)=k:=by
 unfold piL au5
 grind
theorem bA7 {x n j:Nat}(hx:x<n)(hj:n<=j):au5 x n j=j:=by
 unfold au5
 grind
def aL2 (x n:Nat)(o:Oper):Oper:= {o with after:=o.after.map (fun e=> {e with on:=au5 x n e.on}),guard:=o.guard.map (fun g=>(au5 x n g.1,g.2))}
def moveLast (ops:Array Oper)(x:Nat):Array Oper:=
 match ops[x]? with
 |some o0=>((List.range ops.size).map fun k=>aL2 x ops.size ((ops[piL x ops.size k]?).getD o0)).toArray
 |none=>ops
theorem ar6 {ops:Array Oper}{x:Nat}(hx:x<ops.size):moveLast ops x=((List.range ops.size).map fun k=>aL2 x ops.size ((ops[piL x ops.size k]?).getD ops[x])).toArray:=by
 unfold moveLast
 grind
theorem ah0 {ops:Array Oper}{x:Nat}(hx:x<ops.size):(moveLast ops x).size=ops.size:=by
 rw[ar6 hx];simp
theorem Y4 {ops:Array Oper}{x:Nat}(hx:x<ops.size){k:Nat}(hk:k<ops.size):(moveLast ops x)[k]? =(ops[piL x ops.size k]?).map (aL2 x ops.size):=by
 rw[ar6 hx];have:=bu5 hx hk
 grind
theorem aw3 {ops:Array Oper}{x:Nat}(hx:x<ops.size):bp8 ops (moveLast ops x) (au5 x ops.size):=by
 refine⟨fun i o ho=>?_,fun tmps i o g _ _=>?_⟩
 ·have hi:i<ops.size:=(bG9.1 ho).1
  rw[Y4 hx (av5 hi),ad3 hi,ho];exact⟨_,rfl,rfl,rfl,rfl,rfl⟩
 ·unfold yielded
  by_cases hj:g.1<ops.size
  ·rw[Y4 hx (av5 hj),ad3 hj]
   cases ops[g.1]? <;>rfl
  ·rw[bA7 hx (by omega)]
   have e1:(moveLast ops x)[g.1]? =none:=bQ2 (by rw[ah0 hx];omega)
   grind
theorem M1.moveLast {ops:Array Oper}{l:List Nat}(h:M1 ops l){x:Nat}(hx:x<ops.size):M1 (moveLast ops x) (l.map (au5 x ops.size)):=by
 have hlt:∀i∈l,i<ops.size:=fun i hi=>(h.mem i).1 hi
 refine⟨?_,fun k=>?_,fun k1 k k2 he=>?_⟩
 ·unfold List.Nodup
  rw[List.pairwise_map];refine List.Pairwise.imp_of_mem (fun{a b} ha hb hab e=>hab ?_) h.nodup
  rw[<-ad3 (hlt a ha),<-ad3 (hlt b hb),e]
 ·rw[ah0 hx,bN7]
  constructor
  ·rintro ⟨j,hj,rfl⟩;exact av5 (hlt j hj)
  ·intro hk;exact⟨piL x ops.size k,(h.mem _).2 (bu5 hx hk),bv4 hk⟩
 ·obtain⟨l1,l3,e1,e2,e3⟩:=List.map_eq_append_iff.1 he
  obtain⟨i,l2,e4,e5,e6⟩:=List.map_eq_cons_iff.1 e3;obtain⟨o,ho,hd⟩:=h.behind l1 i l2 (by rw[e1,e4])
  have hi:i<ops.size:=(bG9.1 ho).1;subst e5;rw[Y4 hx (av5 hi),ad3 hi,ho];refine⟨_,rfl,fun e hee hb=>?_⟩
  simp only[aL2]at hee;obtain⟨e0,h0,rfl⟩:=Array.mem_map.1 hee;have:=hd e0 h0 hb
  grind
def aL1 :List (Value×Value)->List (Value×Value)->Bool
 | [],[]=>true
 |x::xs,y::ys=>veq 100 x.1 y.1&&veq 100 x.2 y.2&&aL1 xs ys
 |_,_=>false
theorem aH9 :∀ {xs ys:List (Value×Value)},aL1 xs ys=true->xs=ys
 | [],[],_=>rfl
 |x::xs,y::ys,h=>by
  simp only[aL1,bF5]at h;rw[aH9 h.2,Prod.ext (ap5 100 _ _ h.1.1) (ap5 100 _ _ h.1.2)]
 | [],_::_,h=>by cases h
 |_::_,[],h=>by cases h
def ag7 (b c:Blk):Bool:=
 match b,c with
 | .cells c n e z,.cells c' n' e' z'=>Nat.beq n n'&&Nat.beq e e'&&Nat.beq z z'&&(match l9 c 0 n,l9 c' 0 n with|some v,some v'=>T8 (veq 100) v v'|_,_=>false)
 | .map es r,.map es' r'=>(r==r')&&aL1 es es'
 | .dfr,.dfr=>true
 |_,_=>false
theorem bq8 {σ:Sg}{p:Pl}{b c:Blk}{o:Obj}(h:ag7 b c=true)(hc:BR σ p c o):BR σ p b o:=by
 unfold ag7 at h;split at h
 ·rename_i c1 n e z c2 n' e' z'
  simp only[bF5]at h;obtain⟨⟨⟨h1,h2⟩,h3⟩,h4⟩:=h;have h1:=bF9 h1;have h2:=bF9 h2;have h3:=bF9 h3;subst h1 h2 h3;split at h4
  ·rename_i v v' hv hv'
   have:=X3 (ap5 100) h4;subst this;obtain⟨C,k1,k2,k3,k4,k5⟩:=hc;refine⟨C,k1,k2,k3,k4,fun j hj=>?_⟩
   obtain⟨x,u,q1,q2,q3⟩:=k5 j hj;have g1:=(j7 hv).2 j hj;have g2:=(j7 hv').2 j hj
   grind
  ·cases h4
 ·simp only[bF5,beq_iff_eq]at h
  obtain⟨rfl,h⟩:=h;rw[aH9 h];exact hc
 ·exact hc
 ·cases h
theorem K1 {b c:Blk}(h:ag7 b c=true):X9 b=false/\X9 c=false:=by
 unfold ag7 at h;split at h<;>first|exact⟨rfl,rfl⟩|cases h
theorem aP8 {b c:Blk}(h:ag7 b c=true):Q1 b=false/\Q1 c=false:=by
 unfold ag7 at h;split at h<;>first|exact⟨rfl,rfl⟩|cases h
def aZ5 (m1 m2:T Blk):Nat->Nat->T Blk->T Blk
 |_,0,acc=>acc
 |i,n+1,acc=>match m1.get i,m2.get i with
  |some b,some c=>bif ag7 b c then(acc.set i (some b)).force fun acc'=>aZ5 m1 m2 (i+1) n acc' else aZ5 m1 m2 (i+1) n acc
  |_,_=>aZ5 m1 m2 (i+1) n acc
theorem aR9 {m1 m2:T Blk}:∀(n i:Nat) (acc:T Blk) (j:Nat) (b:Blk),(aZ5 m1 m2 i n acc).get j=some b->acc.get j=some b\/(m1.get j=some b/\ ∃c,m2.get j=some c/\ag7 b c=true):=by
 intro n
 induction n with
 |zero=>intro i acc j b h;exact .inl h
 |succ n ih=>
  intro i acc j b h;simp only[aZ5]at h;split at h
  ·rename_i b1 c1 h1 h2
   cases hb:ag7 b1 c1 with
   |false=>grind
   |true=>
    rw[hb,bH1,T.force_eq]at h
    rcases ih _ _ _ _ h with h3|h3
    ·rw[T.get_set]at h3
     grind
    ·grind
  ·grind
def aR8 (t1 t2 : T Value) : Nat → Nat → Option (List Value)
 |_,0=>some []
 | k, n + 1 => bif veq 100 ((t1.get k).getD undef) ((t2.get k).getD undef) then
   match aR8 t1 t2 (k+1) n with
   |some vs=>some ((t1.get k).getD undef::vs)
   |none=>none
  else none
theorem bk5 {t1 t2:T Value}:∀ {n k:Nat} {vs:List Value},aR8 t1 t2 k n=some vs->vs.length=n/\ ∀j,j<n->vs[j]? =some ((t1.get (k+j)).getD undef)/\(t1.get (k+j)).getD undef=(t2.get (k+j)).getD undef:=by
 intro n
 induction n with
 |zero=>intro k vs h;simp only[aR8,bF4]at h;subst h;exact⟨rfl,fun j hj=>absurd hj (Nat.not_lt_zero j)⟩
 |succ n ih=>
  intro k vs h;simp only[aR8]at h;cases hb:veq 100 ((t1.get k).getD undef) ((t2.get k).getD undef)with
  |false=>grind
  |true=>
   rw[hb,bH1]at h;split at h
   ·rename_i vs' hv
    cases h;obtain⟨h1,h2⟩:=ih hv;refine⟨by simp[h1],fun j hj=>?_⟩
    cases j with
    |zero=>exact⟨rfl,ap5 100 _ _ hb⟩
    |succ j=>grind
   ·cases h
def aK6 (nt:Nat)(a b:T Value×Hp):Option (T Value×Hp):=
 bif Nat.beq a.2.nx b.2.nx then match aR8 a.1 b.1 0 nt with
  |some vs=>some (fill .e 0 vs,⟨aZ5 a.2.m b.2.m 0 a.2.nx .e,a.2.nx⟩)
  |none=>none
 else none
section
variable {P :Program}{B:BS}{w0:World}
theorem al4 {nt n : Nat} {a b : T Value × Hp} {tm : T Value} {hp : Hp} (h : aK6 nt a b = some (tm, hp)) {σ : Sg} {e : Exit} {D : List Deferred} {e' : Exit} {c : Act} {w : World} :
  (ak5 n B w0 σ nt e a.1 a.2 D e' c w->ak5 n B w0 σ nt e tm hp D e' c w)/\(ak5 n B w0 σ nt e b.1 b.2 D e' c w->ak5 n B w0 σ nt e tm hp D e' c w):=by
 unfold aK6 at h;cases hn:Nat.beq a.2.nx b.2.nx with
 |false=>grind
 |true=>
  rw[hn,bH1]at h;have hn:=bF9 hn;split at h
  ·rename_i vs hvs
   cases h;obtain⟨v1,v2⟩:=bk5 hvs;have tr:∀ {σ':Sg} {t:T Value} {tmps:Array Value},(∀j,j<nt->vs[j]? =some ((t.get j).getD undef))->TR σ' nt t tmps->TR σ' nt (fill .e 0 vs) tmps:=by
    intro σ' t tmps ht h;refine⟨h.size,fun k=>?_⟩
    rw[i8]
    by_cases hk:k<nt
    ·rw[bH6 (by omega),bN6,ht k hk]
     exact h.at_ k
    ·rw[bH4 (by omega),T.get_e]
     have:tmps.getD k undef=undef:=by simp[Array.getD,h.size,hk]
     rw[this];exact VR.undef σ'
   constructor
   ·rintro ⟨h1,h2,σ',h3,h4,h5⟩
    refine⟨h1,h2,σ',h3,tr (fun j hj=>by have:=(v2 j hj).1;rw[bI6]at this;exact this) h4,h5.less fun i b hg=>?_⟩
    rcases aR9 _ _ _ _ _ hg with h| ⟨h,_⟩
    ·rw[T.get_e]at h;cases h
    ·exact h
   ·rintro ⟨h1,h2,σ',h3,h4,h5⟩
    refine⟨h1,h2,σ',by show Sg.gr n a.2.nx σ σ';rw[hn];exact h3,tr (fun j hj=>by have:=v2 j hj;rw[bI6]at this;rw[<-this.2];exact this.1) h4,?_⟩
    have sub:∀i x,(aZ5 a.2.m b.2.m 0 a.2.nx .e).get i=some x-> ∃y,b.2.m.get i=some y/\ag7 x y=true:=by
     intro i x hg
     rcases aR9 _ _ _ _ _ hg with h| ⟨_,h⟩
     ·rw[T.get_e]at h;cases h
     ·exact h
    refine⟨h5.os,h5.tape,h5.output,h5.size,h5.old,h5.kept,fun i r hi=>h5.frs i r (by rw[<-hn];exact hi),fun i x r hg hx=>?_,fun i j x y r s p q hi hj hxr hys hne hp hq=>?_,fun i x hg hrg=>?_⟩
    ·obtain⟨y,hy,hb⟩:=sub i x hg
     obtain⟨p,o,k1,k2,k3,k4⟩:=h5.liv i y r hy ((Ix.of (K1 hb).2).2 ((Ix.of (K1 hb).1).1 hx));exact⟨p,o,k1,k2.like (aP8 hb).2 (aP8 hb).1,k3,(BX.of (K1 hb).1).2 (bq8 hb ((BX.of (K1 hb).2).1 k4))⟩
    ·obtain⟨x',hx',h1⟩:=sub i x hi
     obtain⟨y',hy',h2⟩:=sub j y hj;exact h5.ij i j x' y' r s p q hx' hy' ((Ix.of (K1 h1).2).2 ((Ix.of (K1 h1).1).1 hxr)) ((Ix.of (K1 h2).2).2 ((Ix.of (K1 h2).1).1 hys)) hne hp hq
    ·obtain⟨y,hy,hb⟩:=sub i x hg
     rw[(K1 hb).1]at hrg;cases hrg
  ·cases h
end
def aP6 :Nat->List Oper->Bool
 |_,[]=>true
 |i,o::os=>o.after.toList.all (fun e=> !(Region.binds .any e)||Nat.blt e.on i)&&aP6 (i+1) os
theorem aF8 :∀ {os:List Oper} {i:Nat},aP6 i os=true-> ∀(j:Nat) o,os[j]? =some o-> ∀e∈o.after,Region.binds .any e=true->e.on<i+j
 | [],_,_,j,o,h=>by simp at h
 |x::os,i,h,j,o,ho=>by
  simp only[aP6,bF5,bI4]at h;cases j with
  |zero=>
   simp at ho;subst ho;intro e he hb;have:=h.1 e (by simpa using he)
   simp_all
  |succ j=>
   intro e he hb;have:=aF8 h.2 j o (by simpa using ho) e he hb
   omega
def bk4 (all:List Oper):Option (Nat×Nat):=
 (aY9 all (R4 all [])).findSome? fun x=>(aY9 all (R4 all [])).findSome? fun y=>bif s2 x y then none else some (y.i,x.i)
def bC8 (P:Program)(call:f9)(nt:Nat)(ops:Array Oper)(tm:T Value)(hp:Hp)(x y:Nat):Option (T Value×Hp):=
 bif aP6 0 ops.toList&&Nat.blt x ops.size&&Nat.blt y ops.size&& !(Nat.beq x y)then
  match ah4 P call nt (A6 ops x y .data).toList tm hp with
  |some r1=>match ah4 P call nt (moveLast (A6 ops y x .data) x).toList tm hp with
   |some r2=>aK6 nt r1 r2
   |none=>none
  |none=>none
 else none
def t8 (P:Program):E5:=fun call nt all tm hp=>
 match ah4 P call nt all tm hp with
 |some r=>some r
 |none=>match bk4 all with
  |some (x,y)=>bC8 P call nt all.toArray tm hp x y
  |none=>none
theorem ap7 {P:Program}(hm:P.follows .mixedOrders=true):X2 P (t8 P):=by
 intro call hcall nt ops id tm hp tm' hp' h B w0 σ a w ht hw r;unfold t8 at h;split at h
 ·rename_i r1 hr
  cases h;exact by3 hm call hcall nt ops id tm hp tm' hp' hr B w0 σ a w ht hw r
 ·split at h
  ·rename_i x y _
   unfold bC8 at h;cases hb:aP6 0 ops.toList.toArray.toList&&Nat.blt x ops.toList.toArray.size&&Nat.blt y ops.toList.toArray.size&& !(Nat.beq x y)with
   |false=>grind
   |true=>
    rw[hb,bH1]at h;have e0:ops.toList.toArray=ops:=by simp
    rw[e0]at h hb;simp only[bF5,bK0]at hb;obtain⟨⟨⟨b1,b2⟩,b3⟩,b4⟩:=hb;have hx:x<ops.size:=by simp_all
    have hy:y<ops.size:=by simp_all
    have hne:x≠y:=fun e=>by rw[e]at b4;simp at b4
    have hback:∀(i:Nat) o,ops[i]? =some o-> ∀e∈o.after,Region.binds .any e=true->e.on<i:=by
     intro i o ho e he hbd;have:=aF8 b1 i o (by simpa using ho) e he hbd
     omega
    split at h
    ·rename_i r1 h1
     split at h
     ·rename_i r2 h2
      refine wpIn_region_draw fun t=>?_
      rw[hm];have hl:=au6 hback t
      rcases hl.first hx hy hne with⟨l1,l2,e,hmem⟩| ⟨l1,l2,e,hmem⟩
      ·
       rw[e]at hl⊢;have hl1:=hl.edge (g:= .data) hmem;have ha:=ap8 (B:=B) (w0:=w0) hcall (ops:=A6 ops x y .data) h1 ht hw r;have hw1:=am7 hl1 _ [] _ _ _ _ rfl (by simp[A6]) (fun j hj=>by simp[A6]at hj⊢;simp[hj]) ha
       have hw2:=N4 (fun e' a' w' hq=>(al4 h).1 hq) _ hw1
       refine I8 (ab7 ops x y .data) _ (fun i hi=>(hl.mem i).1 hi) ?_
       simp_all
      ·
       rw[e]at hl⊢;have hl1:=hl.edge (g:= .data) hmem;have hsz:(A6 ops y x .data).size=ops.size:=by simp[A6]
       have hl2:=hl1.moveLast (x:=x) (by rw[hsz];exact hx)
       have ha:=ap8 (B:=B) (w0:=w0) hcall (ops:=moveLast (A6 ops y x .data) x) h2 ht hw r;have hw1:=am7 hl2 _ [] _ _ _ _ rfl (by simp) (fun j hj=>by simp[hj]) ha
       have hw2:=N4 (fun e' a' w' hq=>(al4 h).2 hq) _ hw1
       have hw3:=I8 (aw3 (ops:=A6 ops y x .data) (x:=x) (by rw[hsz];exact hx)) _ (fun i hi=>(hl1.mem i).1 hi) hw2
       refine I8 (ab7 ops y x .data) _ (fun i hi=>(hl.mem i).1 hi) ?_
       simp_all
     ·cases h
    ·cases h
  ·cases h
def exec (P:Program)(ov:FuncId->Option TypeId)(n:Nat):f9:=V3 P (t8 P) ov n
theorem aK0 {P:Program}(hm:P.follows .mixedOrders=true){ov:FuncId->Option TypeId}(hov:∀g t,ov g=some t->ah9 P g t)(n:Nat):D7 P (exec P ov n):=aQ0 (ap7 hm) hov n
end Go.Xe
end PartXmD
noncomputable section PartXm16
namespace Go.Xe
open Go.RowKit
def yes (r:Option (Value×Hp)):Bool:=
 match r with
 |some (.bool b,_)=>b
 |_=>false
def Hp.empty :Hp:=⟨.e,0⟩
def Sg.none :Sg:=⟨fun _ _=>Option.none⟩
theorem HR.start (w:World):HR (BS.below w) w Sg.none Hp.empty w:=
 ⟨rfl,rfl,rfl,bH7 _,fun _ (h:_<_)=>h,fun _ _=>rfl,fun _ _ _=>rfl,fun i b r h=>by simp[Hp.empty,T.get_e]at h,fun i j b b' r s p q h=>by simp[Hp.empty,T.get_e]at h,fun i b h=>by simp[Hp.empty,T.get_e]at h⟩
theorem HR.toBelow {σ:Sg}{hp:Hp}{w w':World}(h:HR (BS.below w) w σ hp w'):Below w.heap.size w w':=
 ⟨h.os,h.tape,h.output,h.size,h.kept⟩
def noOv :FuncId->Option TypeId:=fun _=>none
theorem bz9 {P:Program}:∀g t,noOv g=some t->ah9 P g t:=fun _ _ h=>by cases h
def ac1 (P:Program)(g:FuncId):Func:=(P.funcs[g]?).getD {name:= "",origin:= "",params:= #[],resultTypes:= #[],nfree:=0,ntmps:=0,results:= #[],body:=none,norace:=false,tmpNames:= #[]}
theorem ah9.of {P : Program} {g : FuncId} {t : TypeId} (r : TypeId) (h0 : (P.funcs[g]?).isSome = true) (h1 : ((ac1 P g).name == "runtime.NumGoroutine") = false) (h2 : (ac1 P g).body.isNone = true)
  (h3:Extern.findNext (ac1 P g)=none) (h4:Extern.find (ac1 P g)=some (Extern.SlicesOverlaps.overlaps #[t,t] #[r])) (hT:t≠ah2:=by decide):ah9 P g t:=by
 refine .inr ⟨hT,ac1 P g,r,?_,h1,h2,h3,h4⟩;unfold ac1;cases h:P.funcs[g]? with
 |none=>rw[h]at h0;cases h0
 |some fn=>rfl
def aL0 (g0:FuncId)(t0:TypeId)(rest:FuncId->Option TypeId):FuncId->Option TypeId:=fun g=>bif Nat.beq g g0 then some t0 else rest g
theorem bA2 {P:Program}{g0:FuncId}{t0:TypeId}{rest:FuncId->Option TypeId}(h:ah9 P g0 t0)(hr:∀g t,rest g=some t->ah9 P g t):∀g t,aL0 g0 t0 rest g=some t->ah9 P g t:=by
 intro g t hg;unfold aL0 at hg;cases hb:Nat.beq g g0 with
 |true=>
  rw[hb,bH1,bF4]at hg;rw[bF9 hb,<-hg];exact h
 |false=>rw[hb,bH2]at hg;exact hr g t hg
theorem bA3 {P:Program}{g:FuncId}(h:aY6 P g):ah9 P g ah2:= .inl ⟨rfl,h⟩
end Go.Xe
end PartXm16
noncomputable section PartXm17
namespace Go.Xe
open Go.RowKit
section
open Go.ChangeShapes
variable {H :Type}{enc:TypeId×Value->H}{P:Program}{w:World}{base:Nat}{spare:Nat->Bool}{held:Bool}
end
end Go.Xe
end PartXm17
noncomputable section PartXm18
namespace Go.Xe
open Go.RowKit
def ax4 :Code->List Code
 | .seq a b=>ax4 a++ax4 b
 | .scope a=>ax4 a
 |c=>[c]
def wpL (P:Program):List Code->(Exit->Act->World->Prop)->Act->World->Prop
 | [],Q=>fun a w=>Q .normal a w
 |c::cs,Q=>c.wpIn (RF none) 0 P (Exit.then (wpL P cs Q) Q)
theorem bx9 {P:Program}{Q:Exit->Act->World->Prop}(hq:∀l a w,¬Q (.goto l) a w):∀(c:Code) (cs:List Code) (a:Act) (w:World),wpL P (ax4 c++cs) Q a w->c.wpIn (RF none) 0 P (Exit.then (wpL P cs Q) Q) a w:=by
 intro c
 induction c with
 |seq x y ihx ihy=>
  intro cs a w h;rw[ax4,bG8]at h;refine wpIn_seq (bQ3 (ihx _ a w h) fun e a' w' hq=>?_)
  cases e<;>first|exact hq|exact ihy _ _ _ hq
 |scope x ihx=>
  intro cs a w h;rw[ax4]at h;refine O3 (bQ3 (ihx _ a w h) fun e a' w' hh=>?_)
  cases e with
  |goto l=>exact hq l a' w' hh
  |_=>exact hh
 |_=>intro cs a w h;exact h
theorem bd1 {P:Program}{Q:Exit->Act->World->Prop}(hq:∀l a w,¬Q (.goto l) a w){c:Code}{a:Act}{w:World}(h:wpL P (ax4 c) Q a w):c.wpIn (RF none) 0 P Q a w:=by
 rw[<-bO4 (ax4 c)]at h;refine bQ3 (bx9 hq c [] a w h) fun e a' w' hq=>?_
 cases e<;>exact hq
theorem ae1 {P:Program}{Q Q':Exit->Act->World->Prop}(hq:∀e a w,Q e a w->Q' e a w):∀(cs:List Code) {a:Act} {w:World},wpL P cs Q a w->wpL P cs Q' a w
 | [],_,_,h=>hq _ _ _ h
 |c::cs,_,_,h=>bQ3 h fun e a' w' hh=>by cases e<;>first|exact ae1 hq cs hh|exact hq _ _ _ hh
theorem aB5 {P:Program}{Q:Exit->Act->World->Prop}:∀(cs ds:List Code) {a:Act} {w:World},wpL P cs (Exit.then (wpL P ds Q) Q) a w->wpL P (cs++ds) Q a w
 | [],_,_,_,h=>h
 |c::cs,ds,_,_,h=>bQ3 h fun e a' w' hh=>by cases e<;>first|exact aB5 cs ds hh|exact hh
def P8 (P:Program)(nt n0:Nat)(cs:List Code)(tm:T Value)(hp:Hp)(e:Exit)(tm':T Value)(hp':Hp):Prop:=
 ∀B w0 σ a w,TR σ nt tm a.tmps->HR B w0 σ hp w->a.defers=[]->wpL P cs (fun e' a' w'=>e'=e/\a'.defers=[]/\ ∃σ',(∀i,i<n0->σ' i=σ i)/\TR σ' nt tm' a'.tmps/\HR B w0 σ' hp' w') a w
theorem P8.append {P:Program}{nt n0:Nat}{cs ds:List Code}{tm tm1 tm2:T Value}{hp hp1 hp2:Hp}{e:Exit}(h:P8 P nt n0 cs tm hp .normal tm1 hp1)(k:P8 P nt n0 ds tm1 hp1 e tm2 hp2):P8 P nt n0 (cs++ds) tm hp e tm2 hp2:=by
 intro B w0 σ a w ht hw hd;refine aB5 cs ds (ae1 ?_ cs (h B w0 σ a w ht hw hd))
 rintro _ a' w' ⟨rfl,hd',σ',hl,ht',hw'⟩
 refine ae1 ?_ ds (k B w0 σ' a' w' ht' hw' hd')
 rintro _ a2 w2 ⟨rfl,hd2,σ2,hl2,ht2,hw2⟩
 exact⟨rfl,hd2,σ2,fun i hi=>(hl2 i hi).trans (hl i hi),ht2,hw2⟩
def aC6 (P:Program)(dr:E5)(call:f9)(nt m:Nat):List Code->T Value->Hp->Option XR
 | [],tm,hp=>some (.mk .normal tm hp [])
 |c::cs,tm,hp=>match i6 P dr call nt none m c tm hp []with
  |some (.mk .normal tm' hp' [])=>aC6 P dr call nt m cs tm' hp'
  |some (.mk .normal _ _ (_::_))=>none
  |r=>r
theorem DsR.nil {σ:Sg}{D:List Deferred}(h:DsR σ [] D):D=[]:=by
 cases D with
 |nil=>rfl
 |cons d D=>exact h.elim
theorem aj8 {P : Program} {dr : E5} {call : f9} (hcall : D7 P call) (hdr : X2 P dr) {nt m n0 : Nat} : ∀ (cs : List Code) {tm : T Value} {hp : Hp} {e : Exit} {tm' : T Value} {hp' : Hp},
  aC6 P dr call nt m cs tm hp=some (.mk e tm' hp' [])->n0<=hp.nx->P8 P nt n0 cs tm hp e tm' hp'
 | [],tm,hp,e,tm',hp',h,_=>by
  simp only[aC6,bF4,XR.mk.injEq]at h;obtain⟨rfl,rfl,rfl,_⟩:=h;exact fun B w0 σ a w ht hw hd=>⟨rfl,hd,σ,fun _ _=>rfl,ht,hw⟩
 |c::cs,tm,hp,e,tm',hp',h,hn0=>by
  intro B w0 σ a w ht hw hd;simp only[aC6]at h;cases hx:i6 P dr call nt none m c tm hp []with
  |none=>rw[hx]at h;cases h
  |some r=>
   obtain⟨e1,tm1,hp1,ds1⟩:=r;refine bQ3 ((N6 (B:=B) (w0:=w0) hcall hdr m).1 c tm hp [] e1 tm1 hp1 ds1 σ a w none hx ht hw (by rw[hd];trivial) trivial) fun e' a' w' hq=>?_
   obtain⟨rfl,σ',gr,hd',ht',hw'⟩:=hq;rw[hx]at h;cases e' with
   |normal=>
    cases ds1 with
    |nil=>
     refine ae1 ?_ cs (aj8 hcall hdr cs h (bL2 hn0 gr.nx) B w0 σ' a' w' ht' hw' hd'.nil)
     rintro _ a2 w2 ⟨rfl,hd2,σ2,hl2,ht2,hw2⟩
     exact⟨rfl,hd2,σ2,fun i hi=>(hl2 i hi).trans (gr.low i (by omega)),ht2,hw2⟩
    |cons d ds=>cases h
   |_=>
    simp only[bF4,XR.mk.injEq]at h;obtain⟨rfl,rfl,rfl,rfl⟩:=h;exact⟨rfl,hd'.nil,σ',fun i hi=>gr.low i (by omega),ht',hw'⟩
def ab6 (P:Program)(nt n0 m:Nat)(c:Code)(tm:T Value)(hp:Hp)(e:Exit)(tm':T Value)(hp':Hp):Prop:=
 ∀B w0 σ a w,TR σ nt tm a.tmps->HR B w0 σ hp w->a.defers=[]->Code.roundsIn (RF none) 0 P c (fun e' a' w'=>e'=e/\a'.defers=[]/\ ∃σ',(∀i,i<n0->σ' i=σ i)/\TR σ' nt tm' a'.tmps/\HR B w0 σ' hp' w') m a w
theorem ab6.runs {P:Program}{nt n0 m:Nat}{c:Code}{tm tm':T Value}{hp hp':Hp}{e:Exit}(h:ab6 P nt n0 m c tm hp e tm' hp')(he:e≠ .normal):P8 P nt n0 [.loop c] tm hp e tm' hp':=by
 intro B w0 σ a w ht hw hd;refine bQ3 (wpIn_loop_rounds m (h B w0 σ a w ht hw hd)) fun e' a' w' hq=>?_
 obtain⟨rfl,hrest⟩:=hq;cases e' with
 |normal=>exact absurd rfl he
 |_=>exact⟨rfl,hrest⟩
theorem P8.block {P:Program}{nt n0 id:Nat}{c:Code}{tm tm':T Value}{hp hp':Hp}(h:P8 P nt n0 [c] tm hp (.exit id) tm' hp'):P8 P nt n0 [.block id c] tm hp .normal tm' hp':=by
 intro B w0 σ a w ht hw hd;refine wpIn_block (bQ3 (h B w0 σ a w ht hw hd) fun e' a' w' hq=>?_)
 cases e' with
 |normal=>obtain⟨h1,_⟩:=hq;cases h1
 |exit j=>
  obtain⟨h1,h2,h3⟩:=hq;cases h1;simp only[Exit.inBlock,bO6];exact⟨rfl,h2,h3⟩
 |_=>obtain⟨h1,_⟩:=hq;cases h1
end Go.Xe
end PartXm18
noncomputable section PartXm19
namespace Go.Xe
open Go.RowKit
inductive Bl where
 |cells (n:Nat) (vs:List Value) (elem esz:Nat)
 |map (es:List (Value×Value)) (reg:Bool)
 |gone
structure St where
 tms:List Value
 bls:List Bl
def Bl.blk :Bl->Option Blk
 | .cells n vs e z=>some (.cells (fill .e 0 vs) n e z)
 | .map es reg=>some (.map es reg)
 | .gone=>none
def aQ4 (c:T Blk):Nat->List Bl->T Blk
 |_,[]=>c
 |k,b::bs=>aQ4 (c.set k b.blk) (k+1) bs
def al2 (c:T Nat):Nat->List Nat->T Nat
 |_,[]=>c
 |k,v::vs=>al2 (c.set k (some v)) (k+1) vs
def St.tm (s:St):T Value:=fill .e 0 s.tms
def St.hp (s:St):Hp:=⟨aQ4 .e 0 s.bls,s.bls.length⟩
theorem Bl.blk_ro {x:Bl}{b:Blk}(h:x.blk=some b):Q1 b=false:=by
 cases x<;>cases h<;>rfl
theorem bj8 :∀(vs:List Bl) (c:T Blk) (k j:Nat),(aQ4 c k vs).get j=if k<=j/\j<k+vs.length then(vs[j-k]?).bind Bl.blk else c.get j:=by
 intro vs
 induction vs with
 |nil=>intro c k j;simp only[aQ4,bQ5,bM0];rw[bH4 (by omega)]
 |cons v vs ih=>
  intro c k j;simp only[aQ4,ih,T.get_set,bJ7]
  by_cases h1:j=k
  ·subst h1;rw[bH4 (by omega),bH6 rfl,bH6 (by omega)];simp
  ·by_cases h2:k+1<=j/\j<k+1+vs.length
   ·rw[bH6 h2,bH6 (by omega)]
    have:j-k=(j-(k+1))+1:=by omega
    rw[this];simp
   ·rw[bH4 h2,bH4 h1,bH4 (by omega)]
theorem bj9 :∀(vs:List Nat) (c:T Nat) (k j:Nat),(al2 c k vs).get j=if k<=j/\j<k+vs.length then vs[j-k]? else c.get j:=by
 intro vs
 induction vs with
 |nil=>intro c k j;simp only[al2,bQ5,bM0];rw[bH4 (by omega)]
 |cons v vs ih=>
  intro c k j;simp only[al2,ih,T.get_set,bJ7]
  by_cases h1:j=k
  ·subst h1;rw[bH4 (by omega),bH6 rfl,bH6 (by omega)];simp
  ·by_cases h2:k+1<=j/\j<k+1+vs.length
   ·rw[bH6 h2,bH6 (by omega)]
    have:j-k=(j-(k+1))+1:=by omega
    rw[this];simp
   ·rw[bH4 h2,bH4 h1,bH4 (by omega)]
theorem aG5 {vs:List Nat}{j:Nat}:(al2 .e 0 vs).get j=vs[j]? :=by
 rw[bj9]
 by_cases h:j<vs.length
 ·rw[bH6 (by omega),bN6]
 ·rw[bH4 (by omega),T.get_e,bQ6 (by omega)]
theorem aQ5 {vs:List Value}{j:Nat}:(fill .e 0 vs).get j=vs[j]? :=by
 rw[i8]
 by_cases h:j<vs.length
 ·rw[bH6 (by omega),bN6]
 ·rw[bH4 (by omega),T.get_e,bQ6 (by omega)]
def idB (x:Option Nat)(j:Nat):Bool:=match x with|some i=>Nat.beq i j|none=>false
def adB (ρ:T Nat)(a b:Option Addr):Bool:=
 match a,b with
 |none,none=>true
 |some ⟨i,o,none⟩,some ⟨j,p,none⟩=>idB (ρ.get i) j&&Nat.beq o p
 |some ⟨i,o,some 0⟩,some ⟨j,p,some 0⟩=>Nat.beq i j&&Nat.beq o p
 |_,_=>false
def vm (ρ:T Nat):Nat->Value->Value->Bool
 |0,_,_=>false
 |n+1,x,y=>match x,y with
  | .bool a,.bool b=>a==b
  | .int j a,.int k b=>decide (j=k)&&decide (a=b)
  | .string a,.string b=>a.data.toList==b.data.toList
  | .pointer a,.pointer b=>adB ρ a b
  | .slice a l c,.slice b l' c'=>adB ρ a b&&Nat.beq l l'&&Nat.beq c c'
  | .map none,.map none=>true
  | .map (some i),.map (some j)=>idB (ρ.get i) j
  | .nilFunc,.nilFunc=>true
  | .nilIface,.nilIface=>true
  | .iface t v,.iface u w=>Nat.beq t u&&vm ρ n v w
  | .agg a,.agg b=>T8 (vm ρ n) a.toList b.toList
  | .tuple a,.tuple b=>T8 (vm ρ n) a.toList b.toList
  | .func f a c,.func g b d=>decide (f=g)&&T8 (vm ρ n) a.toList b.toList&&T8 (vm ρ n) c.toList d.toList
  | .complex f a b,.complex g c d=>decide (f=g)&&Nat.beq a c&&Nat.beq b d
  | .chan (some i),.chan (some j)=>idB (ρ.get i) j
  |_,_=>false
theorem aw4 {f:Value->Value->Bool}:∀ {xs ys:List Value},T8 f xs ys=true->xs.length=ys.length/\ ∀(i:Nat) x y,xs[i]? =some x->ys[i]? =some y->f x y=true
 | [],[],_=>⟨rfl,fun i x y h=>by simp at h⟩
 | [],_::_,h=>by cases h
 |_::_,[],h=>by cases h
 |a::xs,b::ys,h=>by
  simp only[T8,bF5]at h;obtain⟨h1,h2⟩:=aw4 h.2;refine⟨by simp[h1],fun i x y hx hy=>?_⟩
  cases i with
  |zero=>simp at hx hy;subst hx;subst hy;exact h.1
  |succ i=>exact h2 i x y (by simpa using hx) (by simpa using hy)
theorem bi7 {σ σ1 : Sg} {f : Value → Value → Bool} (ih : ∀ x y u, f x y = true → VR σ y u → VR σ1 x u) {a b c : Array Value} (h : T8 f a.toList b.toList = true) (h1 : b.size = c.size) (h2 : ∀ (i : Nat) x y, b[i]? = some x → c[i]? = some y → VR σ x y) :
  a.size=c.size/\ ∀(i:Nat) x y,a[i]? =some x->c[i]? =some y->VR σ1 x y:=by
 obtain⟨k1,k2⟩:=aw4 h;have k1:a.size=b.size:=by rw[<-Array.length_toList,<-Array.length_toList];exact k1
 refine⟨k1.trans h1,fun i x y hx hy=>?_⟩
 have hi:i<a.size:=(bG9.1 hx).1;have hb:b[i]? =some (b[i]'(by omega)):=by simp[show i<b.size by omega]
 exact ih _ _ _ (k2 i x _ (by rw[Array.getElem?_toList];exact hx) (by rw[Array.getElem?_toList];exact hb)) (h2 i _ y hb hy)
theorem bi8 {ρ:T Nat}{σ σ1:Sg}(hρ:∀i j,ρ.get i=some j->σ1 i=σ j):∀(n:Nat) (x y u:Value),vm ρ n x y=true->VR σ y u->VR σ1 x u:=by
 have idOK:∀ {i j},idB (ρ.get i) j=true->σ1 i=σ j:=by
  intro i j h;unfold idB at h;split at h
  ·rename_i k hk
   rw[<-bF9 h];exact hρ i k hk
  ·cases h
 intro n
 induction n with
 |zero=>intro x y u h;cases h
 |succ n ih=>
  intro x y u h hv;simp only[vm]at h;split at h
  ·simp at h;subst h;cases hv;exact .bool _
  ·simp only[bF5,bH5]at h;obtain⟨rfl,rfl⟩:=h;cases hv;exact .int _ _
  ·rename_i a b
   obtain⟨⟨a⟩⟩:=a;obtain⟨⟨b⟩⟩:=b;simp at h;subst h;cases hv;exact .string _
  ·rename_i a b
   unfold adB at h;split at h
   ·cases hv;exact .nilp
   ·rename_i i o j p
    simp only[bF5]at h;rw[bF9 h.2];cases hv with
    |ptr _ _ q hq=>exact .ptr i p q ((idOK h.1).trans hq)
   ·cases hv
   ·cases h
  ·rename_i a l c b l' c'
   simp only[bF5]at h;rw[bF9 h.1.2,bF9 h.2]
   replace h:=h.1.1
   unfold adB at h;split at h
   ·cases hv;exact .nils _ _
   ·rename_i i o j p
    simp only[bF5]at h;rw[bF9 h.2];cases hv with
    |slice _ _ q _ _ c2 hq hc hl=>exact .slice i p q _ _ c2 ((idOK h.1).trans hq) hc hl
   ·rename_i i o j p
    simp only[bF5]at h;rw[bF9 h.1,bF9 h.2];cases hv;exact .vague _ _
   ·cases h
  ·cases hv;exact .nilm
  ·cases hv with
   |map _ p hp=>exact .map _ p ((idOK h).trans hp)
  ·cases hv;exact .nilf
  ·cases hv;exact .nili
  ·simp only[bF5]at h
   rw[bF9 h.1];cases hv with
   |iface _ _ u hv=>exact .iface _ _ _ (ih _ _ _ h.2 hv)
  ·cases hv with
   |agg _ ys h1 h2=>obtain⟨k1,k2⟩:=bi7 ih h h1 h2;exact .agg _ _ k1 k2
  ·cases hv with
   |tuple _ ys h1 h2=>obtain⟨k1,k2⟩:=bi7 ih h h1 h2;exact .tuple _ _ k1 k2
  ·simp only[bF5,bH5]at h
   obtain⟨⟨rfl,ha⟩,hb⟩:=h;cases hv with
   |func _ _ ys _ ds h1 h2 h3 h4=>
    obtain⟨k1,k2⟩:=bi7 ih ha h1 h2;obtain⟨k3,k4⟩:=bi7 ih hb h3 h4;exact .func _ _ _ _ _ k1 k2 k3 k4
  ·simp only[bF5,bH5]at h
   obtain⟨⟨rfl,ha⟩,hb⟩:=h;rw[bF9 ha,bF9 hb];cases hv with
   |ival _ _ _ n h1 h2=>exact .ival _ _ _ n h1 h2
  ·cases hv with
   |yield _ p hp=>exact .yield _ p ((idOK h).trans hp)
  ·cases h
def incB :Nat->List Nat->Bool
 |_,[]=>true
 |lo,a::l=>Nat.ble lo a&&incB (a+1) l
theorem aR1 :∀ {l:List Nat} {lo:Nat},incB lo l=true-> ∀(i a:Nat),l[i]? =some a->lo<=a/\ ∀(j b:Nat),i<j->l[j]? =some b->a<b
 | [],_,_,i,a,h=>by simp at h
 |x::l,lo,h,i,a,ha=>by
  simp only[incB,bF5]at h;have h1:=bF8 h.1;have ih:=aR1 h.2;cases i with
  |zero=>
   simp at ha;subst ha;refine⟨h1,fun j b hj hb=>?_⟩
   cases j with
   |zero=>omega
   |succ j=>have:=(ih j b (by simpa using hb)).1;omega
  |succ i=>
   obtain⟨k1,k2⟩:=ih i a (by simpa using ha)
   refine⟨by omega,fun j b hj hb=>?_⟩
   cases j with
   |zero=>omega
   |succ j=>exact k2 j b (by omega) (by simpa using hb)
def tmsB (ρ:T Nat)(tm:T Value):Nat->List Value->Bool
 |_,[]=>true
 |k,v::vs=>vm ρ 100 v ((tm.get k).getD undef)&&tmsB ρ tm (k+1) vs
theorem aV4 {ρ:T Nat}{tm:T Value}:∀ {vs:List Value} {k:Nat},tmsB ρ tm k vs=true-> ∀(i:Nat) v,vs[i]? =some v->vm ρ 100 v ((tm.get (k+i)).getD undef)=true
 | [],_,_,i,v,h=>by simp at h
 |x::vs,k,h,i,v,hv=>by
  simp only[tmsB,bF5]at h;cases i with
  |zero=>simp at hv;subst hv;exact h.1
  |succ i=>
   have:=aV4 h.2 i v (by simpa using hv)
   rw[show k+(i+1)=k+1+i by omega]
   exact this
def mapB (ρ:T Nat):List (Value×Value)->List (Value×Value)->Bool
 | [],[]=>true
 |x::xs,y::ys=>vm ρ 100 x.1 y.1&&vm ρ 100 x.2 y.2&&mapB ρ xs ys
 |_,_=>false
theorem aR7 {ρ:T Nat}:∀ {xs ys:List (Value×Value)},mapB ρ xs ys=true->xs.length=ys.length/\ ∀(i:Nat) x,xs[i]? =some x-> ∃y,ys[i]? =some y/\vm ρ 100 x.1 y.1=true/\vm ρ 100 x.2 y.2=true
 | [],[],_=>⟨rfl,fun i x h=>by simp at h⟩
 | [],_::_,h=>by cases h
 |_::_,[],h=>by cases h
 |a::xs,b::ys,h=>by
  simp only[mapB,bF5]at h;obtain⟨h1,h2⟩:=aR7 h.2;refine⟨by simp[h1],fun i x hx=>?_⟩
  cases i with
  |zero=>simp at hx;subst hx;exact⟨b,rfl,h.1.1,h.1.2⟩
  |succ i=>obtain⟨y,k1,k2⟩:=h2 i x (by simpa using hx);exact⟨y,by simpa using k1,k2⟩
def blB (ρ:T Nat)(x:Bl)(y:Option Blk):Bool:=
 match x,y with
 | .gone,_=>true
 | .cells n vs e z,some (.cells c k e' z')=>Nat.beq n k&&Nat.beq e e'&&Nat.beq z z'&&(match l9 c 0 k with|some ws=>T8 (vm ρ 100) vs ws|none=>false)
 | .map es reg,some (.map es' reg')=>(reg==reg')&&mapB ρ es es'
 |_,_=>false
theorem bD3 {ρ:T Nat}{x:Bl}{b c:Blk}(h:blB ρ x (some c)=true)(hb:x.blk=some b):Q1 c=false:=by
 unfold blB at h;split at h
 ·cases hb
 ·rename_i e;cases e;rfl
 ·rename_i e;cases e;rfl
 ·cases h
def blsB (ρ:T Nat)(m:T Blk):List Nat->List Bl->Bool
 | [],[]=>true
 |j::js,b::bs=>blB ρ b (m.get j)&&blsB ρ m js bs
 |_,_=>false
theorem aP9 {ρ:T Nat}{m:T Blk}:∀ {js:List Nat} {bs:List Bl},blsB ρ m js bs=true->js.length=bs.length/\ ∀(i:Nat) b,bs[i]? =some b-> ∃j,js[i]? =some j/\blB ρ b (m.get j)=true
 | [],[],_=>⟨rfl,fun i b h=>by simp at h⟩
 | [],_::_,h=>by cases h
 |_::_,[],h=>by cases h
 |j::js,b::bs,h=>by
  simp only[blsB,bF5]at h;obtain⟨h1,h2⟩:=aP9 h.2;refine⟨by simp[h1],fun i x hx=>?_⟩
  cases i with
  |zero=>simp at hx;subst hx;exact⟨j,rfl,h.1⟩
  |succ i=>obtain⟨y,k1,k2⟩:=h2 i x (by simpa using hx);exact⟨y,by simpa using k1,k2⟩
def aV6 (l:List Nat)(nt:Nat)(tm:T Value)(hp:Hp)(s:St):Bool:=
 incB 0 l&&Nat.beq s.tms.length nt&&(al2 .e 0 l).force fun ρ=>tmsB ρ tm 0 s.tms&&blsB ρ hp.m l s.bls
theorem bD2 {σ σ1:Sg}{ρ:T Nat}(hρ:∀i j,ρ.get i=some j->σ1 i=σ j){p:Pl}{x:Bl}{y b:Blk}{o:Obj}(h:blB ρ x (some y)=true)(hb:x.blk=some b)(ho:BR σ p y o):BR σ1 p b o:=by
 cases x with
 |gone=>cases hb
 |map es reg=>
  simp only[Bl.blk,bF4]at hb;subst hb;cases y with
  |map es' reg'=>
   simp only[blB,bF5,beq_iff_eq]at h;obtain⟨rfl,hmb⟩:=h;obtain⟨h1,h2⟩:=aR7 hmb;obtain⟨ents,clock,rfl,k2,k3,k4⟩:=ho;refine⟨ents,clock,rfl,k2.trans h1.symm,fun j x e hx he=>?_,k4⟩
   obtain⟨y,hy,m1,m2⟩:=h2 j x hx;obtain⟨v1,v2⟩:=k3 j y e hy he;exact⟨bi8 hρ 100 _ _ _ m1 v1,bi8 hρ 100 _ _ _ m2 v2⟩
  |_=>cases h
 |cells n vs e z=>
  simp only[Bl.blk,bF4]at hb;subst hb;cases y with
  |cells c k e' z'=>
   simp only[blB,bF5]at h;obtain⟨⟨⟨h1,h2⟩,h3⟩,h4⟩:=h;have h1:=bF9 h1;have h2:=bF9 h2;have h3:=bF9 h3;subst h1 h2 h3;split at h4
   ·rename_i ws hws
    obtain⟨l1,l2⟩:=j7 hws;obtain⟨m1,m2⟩:=aw4 h4;obtain⟨C,k1,k2,k3,k4,k5⟩:=ho;refine⟨C,k1,k2,k3,k4,fun j hj=>?_⟩
    obtain⟨v,u,q1,q2,q3⟩:=k5 j hj;have hw:ws[j]? =some v:=by rw[l2 j hj,bI6];exact q1
    have hjv:j<vs.length:=by omega
    have hv:vs[j]? =some vs[j]:=by simp[hjv]
    exact⟨vs[j],u,by rw[aQ5];exact hv,q2,bi8 hρ 100 _ _ _ (m2 j _ _ hv hw) q3⟩
   ·cases h4
  |_=>cases h
theorem aV7 {l : List Nat} {nt : Nat} {tm : T Value} {hp : Hp} {s : St} (h : aV6 l nt tm hp s = true) {B : BS} {w0 : World} {σ : Sg} {tmps : Array Value} {w : World} (ht : TR σ nt tm tmps) (hw : HR B w0 σ hp w) :
  ∃σ1:Sg,σ1=⟨fun i r=>if r=0 then(l[i]?).bind σ.z else none⟩/\TR σ1 nt s.tm tmps/\HR B w0 σ1 s.hp w:=by
 unfold aV6 at h;rw[T.force_eq]at h;simp only[bF5]at h;obtain⟨⟨h1,h2⟩,h3,h4⟩:=h;have h2:=bF9 h2;have hinc:=aR1 h1;obtain⟨b1,b2⟩:=aP9 h4;refine⟨⟨fun i r=>if r=0 then(l[i]?).bind σ.z else none⟩,rfl,⟨ht.size,fun k=>?_⟩,?_⟩
 ·have hρ : ∀ i j, (al2 .e 0 l).get i = some j → (l[i]?).bind σ = σ j := by
   intro i j hij;rw[aG5]at hij;rw[hij];rfl
  unfold St.tm;rw[aQ5]
  by_cases hk:k<s.tms.length
  ·have hv:s.tms[k]? =some s.tms[k]:=by simp[hk]
   have:=aV4 h3 k _ hv;rw[hv,bJ6];rw[bI6]at this;exact bi8 hρ 100 _ _ _ this (ht.at_ k)
  ·have e1:s.tms[k]? =none:=bQ6 (by omega)
   have e2:tmps.getD k undef=undef:=by simp[Array.getD,ht.size,show¬k<nt by omega]
   rw[e1,e2,Option.getD_none];exact VR.undef _
 ·have hρ : ∀ i j, (al2 .e 0 l).get i = some j → (l[i]?).bind σ = σ j := by
   intro i j hij;rw[aG5]at hij;rw[hij];rfl
  have get:∀i b,s.hp.m.get i=some b-> ∃x j y,s.bls[i]? =some x/\x.blk=some b/\l[i]? =some j/\hp.m.get j=some y/\blB (al2 .e 0 l) x (some y)=true:=by
   intro i b hib;unfold St.hp at hib;simp only at hib;rw[bj8]at hib
   by_cases hi:i<s.bls.length
   ·rw[bH6 (by omega),bN6,Option.bind_eq_some_iff]at hib
    obtain⟨x,hx,hb⟩:=hib;obtain⟨j,hj,hxb⟩:=b2 i x hx;cases hy:hp.m.get j with
    |none=>
     rw[hy]at hxb;cases x with
     |gone=>cases hb
     |_=>cases hxb
    |some y=>rw[hy]at hxb;exact⟨x,j,y,hx,hb,hj,hy,hxb⟩
   ·rw[bH4 (by omega),T.get_e]at hib
    cases hib
  have nrg:∀ {x:Bl} {b:Blk},x.blk=some b->X9 b=false:=fun{x b} h=>by cases x<;>cases h<;>rfl
  have nrg2:∀ {ρ:T Nat} {x:Bl} {b c:Blk},blB ρ x (some c)=true->x.blk=some b->X9 c=false:=fun{ρ x b c} h hb=>by
   unfold blB at h;split at h
   ·cases hb
   ·rename_i e;cases e;rfl
   ·rename_i e;cases e;rfl
   ·cases h
  refine⟨hw.os,hw.tape,hw.output,hw.size,hw.old,hw.kept,fun i r hi=>?_,fun i b r hib hx=>?_,fun i j b b' r r' p q hi hj hx hx' hne hp1 hq1=>?_,fun i b hib hr=>?_⟩
  ·have hi:s.bls.length<=i:=hi
   show(if r=0 then(l[i]?).bind σ.z else Option.none)=Option.none
   rw[bQ6 (show l.length<=i by omega)]
   split<;>rfl
  ·obtain⟨x,j,y,hx1,hb,hj,hy,hxy⟩:=get i b hib
   have hr0:=(Ix.of (nrg hb)).1 hx;subst hr0;obtain⟨p,o,k1,k2,k3,k4⟩:=hw.live j y hy (nrg2 hxy hb);exact⟨p,o,by show(if(0:Nat)=0 then(l[i]?).bind σ.z else Option.none)=some p;rw[bH6 rfl,hj];exact k1,k2.like (bD3 hxy hb) (Bl.blk_ro hb),k3,(BX.of (nrg hb)).2 (bD2 hρ hxy hb k4)⟩
  ·obtain⟨x,k,y,hx1,hb,hk,hy,hxy⟩:=get i b hi
   obtain⟨x',k',y',hx1',hb',hk',hy',hxy'⟩:=get j b' hj;have hr0:=(Ix.of (nrg hb)).1 hx;have hr0':=(Ix.of (nrg hb')).1 hx';subst hr0;subst hr0';have hp1:(l[i]?).bind σ.z=some p:=hp1;have hq1:(l[j]?).bind σ.z=some q:=hq1;rw[hk]at hp1;rw[hk']at hq1;refine hw.inj k k' y y' p q hy hy' ?_ hp1 hq1 (nrg2 hxy hb) (nrg2 hxy' hb');have hne:i≠j:=hne.resolve_right fun c=>c rfl
   rcases Nat.lt_or_gt_of_ne hne with hlt|hlt
   ·have:=(hinc i k hk).2 j k' hlt hk';omega
   ·have:=(hinc j k' hk').2 i k hlt hk;omega
  ·obtain⟨x,k,y,hx1,hb,hk,hy,hxy⟩:=get i b hib
   rw[nrg hb]at hr;cases hr
def bm0 :Nat->Nat->List Nat->Bool
 |_,0,_=>true
 |k,n+1,j::l=>Nat.beq k j&&bm0 (k+1) n l
 |_,_+1,[]=>false
theorem az4 :∀ {n k:Nat} {l:List Nat},bm0 k n l=true-> ∀i,i<n->l[i]? =some (k+i)
 |0,_,_,_,i,hi=>absurd hi (Nat.not_lt_zero i)
 |n+1,k,[],h,_,_=>by cases h
 |n+1,k,j::l,h,i,hi=>by
  simp only[bm0,bF5]at h;have h1:=bF9 h.1;cases i with
  |zero=>simp[h1]
  |succ i=>
   have:=az4 h.2 i (by omega)
   simp only[bG5,this]
   congr 1
   omega
section
variable {P :Program}{dr:E5}{call:f9}{nt n0 m:Nat}
theorem P8.weak {cs:List Code}{tm tm':T Value}{hp hp':Hp}{e:Exit}{l:List Nat}{s:St}(h:P8 P nt n0 cs tm hp e tm' hp')(k:aV6 l nt tm' hp' s=true)(hp0:bm0 0 n0 l=true):P8 P nt n0 cs tm hp e s.tm s.hp:=by
 intro B w0 σ a w ht hw hd;refine ae1 ?_ cs (h B w0 σ a w ht hw hd)
 rintro _ a' w' ⟨rfl,hd',σ',hl,ht',hw'⟩
 obtain⟨σ1,rfl,h1,h2⟩:=aV7 k ht' hw';refine⟨rfl,hd',_,fun i hi=>?_,h1,h2⟩
 rw[<-hl i hi];show(if(0:Nat)=0 then(l[i]?).bind σ'.z else Option.none)=σ' i
 rw[bH6 rfl,az4 hp0 i hi,bI6];rfl
theorem ab6.weak {c:Code}{tm tm':T Value}{hp hp':Hp}{e:Exit}{l:List Nat}{s:St}(h:ab6 P nt n0 m c tm hp e tm' hp')(k:aV6 l nt tm' hp' s=true)(hp0:bm0 0 n0 l=true):ab6 P nt n0 m c tm hp e s.tm s.hp:=by
 intro B w0 σ a w ht hw hd;refine U4 ?_ (h B w0 σ a w ht hw hd)
 rintro _ a' w' ⟨rfl,hd',σ',hl,ht',hw'⟩
 obtain⟨σ1,rfl,h1,h2⟩:=aV7 k ht' hw';refine⟨rfl,hd',_,fun i hi=>?_,h1,h2⟩
 rw[<-hl i hi];show(if(0:Nat)=0 then(l[i]?).bind σ'.z else Option.none)=σ' i
 rw[bH6 rfl,az4 hp0 i hi,bI6];rfl
def ba9 (P:Program)(dr:E5)(call:f9)(nt n0 m:Nat)(cs:List Code)(s:St)(l:List Nat)(s':St):Bool:=
 bm0 0 n0 l&&Nat.ble n0 s.bls.length&&match aC6 P dr call nt m cs s.tm s.hp with
 |some (.mk .normal tm hp [])=>aV6 l nt tm hp s'
 |_=>false
theorem bu6 (hcall:D7 P call)(hdr:X2 P dr){cs:List Code}{s s':St}{l:List Nat}(h:ba9 P dr call nt n0 m cs s l s'=true):P8 P nt n0 cs s.tm s.hp .normal s'.tm s'.hp:=by
 unfold ba9 at h;simp only[bF5]at h;obtain⟨⟨h1,h2⟩,h⟩:=h;split at h
 ·rename_i tm hp hx
  exact(aj8 hcall hdr cs hx (bF8 h2)).weak h h1
 ·cases h
def bf7 (P:Program)(dr:E5)(call:f9)(nt m:Nat)(cs:List Code)(s:St)(rs:List ResultVar):Bool:=
 match aC6 P dr call nt m cs s.tm s.hp with
 |some (.mk .normal tm hp [])=>(match E4 P tm hp rs with|some [.bool b]=>b|_=>false)
 |some (.mk .ret tm hp [])=>(match E4 P tm hp rs with|some [.bool b]=>b|_=>false)
 |_=>false
end
def K7 (P:Program)(f:FuncId):List Code:=match(ac1 P f).body with|some c=>ax4 c|none=>[]
def ntOf (P:Program)(f:FuncId):Nat:=(ac1 P f).ntmps
def az6 (P:Program)(f:FuncId):List ResultVar:=(ac1 P f).results.toList
def part (P:Program)(f k n:Nat):List Code:=((K7 P f).drop k).take n
def St.none :St:=⟨[],[]⟩
theorem P8.start {P:Program}{nt n0 f:Nat}{tm:T Value}{hp:Hp}:P8 P nt n0 ((K7 P f).take 0) tm hp .normal tm hp:=by
 rw[List.take_zero];exact fun B w0 σ a w ht hw hd=>⟨rfl,hd,σ,fun _ _=>rfl,ht,hw⟩
theorem P8.step {P : Program} {nt n0 f k : Nat} {tm tm1 tm2 : T Value} {hp hp1 hp2 : Hp} {e : Exit} (h : P8 P nt n0 ((K7 P f).take k) tm hp .normal tm1 hp1) (n : Nat) (h2 : P8 P nt n0 (part P f k n) tm1 hp1 e tm2 hp2) :
  P8 P nt n0 ((K7 P f).take (k+n)) tm hp e tm2 hp2:=by
 rw[List.take_add];exact h.append h2
theorem ao1 {P : Program} (hm : P.follows .mixedOrders = true) {call : f9} (hcall : D7 P call) {f k m nt : Nat} {s : St} (hs : (P.funcs[f]?).isSome = true) (hb : (ac1 P f).body.isSome = true) (hn : ntOf P f = nt)
  (h1:P8 P nt 0 ((K7 P f).take k) St.none.tm St.none.hp .normal s.tm s.hp) (h2:bf7 P (t8 P) call nt m ((K7 P f).drop k) s (az6 P f)=true) (w:World):
  Calls P f #[] w fun e w'=>e= .returned (.bool true)/\Below w.heap.size w w':=by
 have hfn:P.funcs[f]? =some (ac1 P f):=by
  unfold ac1;cases h:P.funcs[f]? with
  |none=>rw[h]at hs;cases hs
  |some fn=>rfl
 generalize hF:ac1 P f=fn at hfn hb;cases hc:fn.body with
 |none=>rw[hc]at hb;cases hb
 | some c =>
  have hparts:K7 P f=ax4 c:=by unfold K7;rw[hF,hc]
  have hnt:ntOf P f=fn.ntmps:=by unfold ntOf;rw[hF]
  have hrs:az6 P f=fn.results.toList:=by unfold az6;rw[hF]
  rw [hnt] at hn;subst hn;rw [hparts] at h1;rw [hparts,hrs] at h2;have key : ∀ e tm hp vs, (e = .normal ∨ e = .ret) → aC6 P (t8 P) call fn.ntmps m ((ax4 c).drop k) s.tm s.hp = some (.mk e tm hp []) → E4 P tm hp fn.results.toList = some vs → vs = [.bool true] →
    Calls P f #[] w fun e w'=>e= .returned (.bool true)/\Below w.heap.size w w':=by
   rintro e tm hp vs he hx hr rfl
   have hall:=h1.append (aj8 hcall (ap7 hm) _ hx (bP0 _));rw[bO8]at hall;have h0:TR Sg.none fn.ntmps St.none.tm (#[]++Array.replicate fn.ntmps undef):=by
    have:=TR.start (VRL.nil Sg.none) fn.ntmps
    simpa [St.tm,St.none,fill]using this
   refine callsIn_wide.1 (callsIn_of_wp (n:=0) hfn hc trivial (bQ3 (F:=RF none) (bd1 (fun l a w h=>by rcases he with rfl|rfl<;>cases h.1) (hall (BS.below w) w Sg.none {tmps:= #[]++Array.replicate fn.ntmps undef,defers:=[]} w h0 (HR.start w) rfl)) fun e' a' w' hq=>?_))
   obtain⟨rfl,hd,σ',_,ht,hw'⟩:=hq;obtain⟨us,hu1,hu2⟩:=L9 ht hw' hr;obtain⟨u,us',rfl,hu,hu3⟩:=hu1.uncons;rw[hu3.unnil]at hu2;cases hu;have hres:(results fn a'.tmps).run P w'= .ok (.bool true) w':=by
    have he:results fn a'.tmps=(do let vs<-fn.results.mapM (aI2 a'.tmps);pure (if h:vs.size=1 then vs[0]else .tuple vs):Sem Value):=rfl
    rw[he,Array.mapM_eq_mapM_toList,bI3,Sem.run_map,hu2];rfl
   rcases he with rfl|rfl
   ·exact⟨hd,_,hres,rfl,hw'.toBelow⟩
   ·exact⟨hd,_,hres,rfl,hw'.toBelow⟩
  unfold bf7 at h2;split at h2
  ·rename_i tm hp hx
   split at h2
   ·rename_i b hr
    exact key .normal tm hp _ (.inl rfl) hx hr (by rw[h2])
   ·cases h2
  ·rename_i tm hp hx
   split at h2
   ·rename_i b hr
    exact key .ret tm hp _ (.inr rfl) hx hr (by rw[h2])
   ·cases h2
  ·cases h2
theorem au1 {P : Program} (hm : P.follows .mixedOrders = true) {ov : FuncId → Option TypeId} (hov : ∀ g t, ov g = some t → ah9 P g t) {f k n m nt : Nat} {s : St} (hs : (P.funcs[f]?).isSome = true) (hb : (ac1 P f).body.isSome = true) (hn : ntOf P f = nt)
  (h1:P8 P nt 0 ((K7 P f).take k) St.none.tm St.none.hp .normal s.tm s.hp) (h2:bf7 P (t8 P) (exec P ov n) nt m ((K7 P f).drop k) s (az6 P f)=true) (w:World):
  Calls P f #[] w fun e w'=>e= .returned (.bool true)/\Below w.heap.size w w':=
 ao1 hm (aK0 hm hov n) hs hb hn h1 h2 w
end Go.Xe
end PartXm19
