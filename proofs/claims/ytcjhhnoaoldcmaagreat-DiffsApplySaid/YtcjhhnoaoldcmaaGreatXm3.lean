/- The executor, parts S, 13, 14, 15, D, 16, 17, 24.
  Conditions: none. -/
import Derived.Test.YtcjhhnoaoldcmaaGreatXm2
import Derived.OrdersIn
import Derived.ChangeSame
set_option linter.all false
noncomputable section PartXmS
namespace Go.Xe
open Go.RowKit
def clEq (v1 v2:Af):Bool:= @decide (v1=v2) (Classical.propDecidable _)
def Gw {a b:Af}(h:clEq a b=true):a=b:= @Lq _ (Classical.propDecidable _) h
def AP (v:Af):clEq v v=true:= @decide_eq_true _ (Classical.propDecidable _) rfl
def sL (R:Af->Hp->Bc (Aw×Hp))(args:Af)(hp:Hp):Bc (Aw×Hp):=
 match args with
 | [.slice (some ⟨i,o0,none⟩) l c,x,.slice (some ⟨j,o,none⟩) m cm]=>
  bif Nat.ble unk c && Nat.beq (D1 c) 0 && !(Nat.beq i j) && Nat.ble (l + m) 67108864 then
   match hp.m.get i,hp.m.get j with
   |some bi,some bj=>
    match R [.slice (some ⟨i,o0,none⟩) l (c8 (l+m) 0),x,.slice (some ⟨j,o,none⟩) m cm] ⟨(T.set .e i (some bi)).set j (some bj),hp.nx⟩,
      R [.slice (some ⟨i,o0,none⟩) l (c8 l (l+m)),x,.slice (some ⟨j,o,none⟩) m cm] ⟨(T.set .e i (some bi)).set j (some bj),hp.nx⟩with
    |some (.slice (some ⟨a,oa,none⟩) la ca,ha),some (.slice (some ⟨b,ob,none⟩) lb cb,hb)=>
     bif Nat.beq la lb&&Nat.ble unk ca&&Nat.ble unk cb then
      match ha.m.get a,hb.m.get b with
      |some (.cells c1 k1 e1 z1),some (.cells c2 k2 e2 z2)=>
       bif Nat.ble (oa+la*z1) k1&&Nat.ble (ob+la*z1) k2&&Nat.beq e1 e2&&Nat.beq z1 z2 then
        match d6 c1 oa (la*z1),d6 c2 ob (la*z1)with
        | some v1, some v2 => bif dB (veq 100) v1 v2 || clEq v1 v2 then
          some (.slice (some ⟨Nat.max ha.nx hb.nx,0,none⟩) la (c8 la 0),
           ⟨((hp.m.set i none).set j none).set (Nat.max ha.nx hb.nx) (some (.cells (fill .e 0 v1) (la*z1) e1 z1)),Nat.max ha.nx hb.nx+1⟩)
         else none
        |_,_=>none
       else none
      |_,_=>none
     else none
    |_,_=>none
   |_,_=>none
  else none
 |_=>none
def I3 (P:Ax)(runD:Az->Af->Hp->Bc (Aw×Hp)):List Df->Hp->Bc Hp
 | [],hp=>some hp| .mark r::ds,hp=>match hp.m.get r with
  |some .dfr=>I3 P runD ds {hp with m:=hp.m.set r none}|_=>none
 | .call g args cap::ds,hp=>match P.funcs[g]? with
  | some fn => bif cC fn then
    match runD g (args++cap) hp with
    |some (_,hp')=>I3 P runD ds hp'|none=>none
   else none
  |none=>none
def jO (P:Ax)(fn:Func)(runD:Az->Af->Hp->Bc (Aw×Hp))(tm:Ao)(hp:Hp)(ds:List Df):Bc (Aw×Hp):=
 match I3 P runD ds hp with
 |some hp'=>match C8 P tm hp' fn.results.toList with
  |some vs=>some (bI vs,hp')|none=>none
 |none=>none
def V2 (P:Ax)(dr:Q1)(call:c7)(runD:Az->Af->Hp->Bc (Aw×Hp))(n:Nat)(f:Az)(args:Af)(hp:Hp):Bc (Aw×Hp):=
 match P.funcs[f]? with
 |some fn=>match fn.body with
  |some c=>match f9 P dr call (args.length+(fn.ntmps-args.length)) none n c (fill .e 0 args) hp []with
   |some (.mk .normal tm' hp' ds)=>jO P fn runD tm' hp' ds|some (.mk .ret tm' hp' ds)=>jO P fn runD tm' hp' ds|_=>none
  |none=>none
 |none=>none
def P5 (P:Ax)(dr:Q1)(call:c7)(n:Nat)(f:Az)(args:Af)(hp:Hp):Bc (Aw×Hp):=
 match P.funcs[f]? with
 |some fn=>match fn.body with
  |some c=>match f9 P dr call (args.length+(fn.ntmps-args.length)) none n c (fill .e 0 args) hp []with
   |some (.mk .normal tm' hp' [])=>jO P fn (fun _ _ _=>none) tm' hp' []|some (.mk .ret tm' hp' [])=>jO P fn (fun _ _ _=>none) tm' hp' []|_=>none
  |none=>none
 |none=>none
def rN (tm:Ao):List Tmp->Af->Ao
 |t::ts,v::vs=>rN (tm.set t (some v)) ts vs|_,_=>tm
def sW (n:Nat):List Tmp->Bool
 | []=>true|t::ts=>Nat.blt t n&&sW n ts
def sH (P:Ax)(dr:Q1)(call:c7)(m:Nat)(i:Nat)(args:Af)(hp:Hp):Bc (Aw×Hp):=
 match hp.m.get i with
 |some (.loop .ready _ nt tms ps assign body _)=>
  bif Nat.beq ps.toList.length args.length&&sW nt ps.toList then
   match f9 P dr call nt (some i) m assign (rN tms ps.toList args) hp []with
   |some (.mk .normal tm1 hp1 ds1)=>match hp1.m.get i with
    |some (.loop .ready p1 n1 t1 q1 a1 b1 d1)=>
     match f9 P dr call nt (some i) m body tm1 {hp1 with m:=hp1.m.set i (some (.loop .busy p1 n1 t1 q1 a1 b1 d1))} ds1 with
     |some (.mk e _ hp2 _)=>match hp2.m.get i with
      |some (.loop _ _ n2 t2 q2 a2 b2 d2)=>match e with
       | .normal=>some (.bool true,{hp2 with m:=hp2.m.set i (some (.loop .ready none n2 t2 q2 a2 b2 d2))})| .ret=>some (.bool false,{hp2 with m:=hp2.m.set i (some (.loop .done (some .ret) n2 t2 q2 a2 b2 d2))})| .exit id=>some (.bool false,{hp2 with m:=hp2.m.set i (some (.loop .done (some (.exit id)) n2 t2 q2 a2 b2 d2))})|_=>none
      |_=>none
     |none=>none
    |_=>none
   |_=>none
  else none
 |_=>none
def fU (R:Af->Hp->Bc (Aw×Hp))(args:Af)(hp:Hp):Bc (Aw×Hp):=
 match R args hp with
 |some r=>some r|none=>sL R args hp
def wkA (hp:Hp):Af->Af
 | .slice (some ⟨i, o, none⟩) l c :: xs => bif Nat.ble c 67108864 then
   match hp.m.get i with
   |some (.cells _ k _ z)=>bif Nat.ble (o+c*z) k then .slice (some ⟨i,o,none⟩) l (c8 c 0)::xs else .slice (some ⟨i,o,none⟩) l c::xs|_=>.slice (some ⟨i,o,none⟩) l c::xs
  else .slice (some ⟨i,o,none⟩) l c::xs
 |xs=>xs
def wkFn (fn:Func):Bool:=(Nat.beq fn.ntmps 33||Nat.beq fn.ntmps 95)&&match fn.params.toList,fn.resultTypes.toList with
 | [a,_,_],[r]=>Nat.beq a r|_,_=>false
def wkF (P:Ax)(f:Az):Bool:=match P.funcs[f]? with
 |some fn=>wkFn fn|none=>false
def aO (P:Ax)(dr:Q1)(ov:Aa):Nat->c7
 |0=>⟨fun _ _ _=>none,ov,fun _ _ _=>none⟩
 |n+1=>⟨fun f args hp=>bif isT (ov f)&&args.isEmpty then some (.bool true,hp)else fU (V2 P dr (aO P dr ov n) (P5 P dr (aO P dr ov n) n) n f) (bif wkF P f then wkA hp args else args) hp,ov,sH P dr (aO P dr ov n) n⟩
section
variable {P :Ax}{B:BS}{w0:Be}
def Cy (P:Ax)(f:Az)(R:Af->Hp->Bc (Aw×Hp)):Prop:=
 ∀args hp v hp',R args hp=some (v,hp')-> ∀B w0 σ w args',VRL σ args args'->HR B w0 σ hp w->
  Calls P f args'.toArray w (fun e w'=>∃σ' u,e= .returned u/\Sg.gr hp.nx hp'.nx σ σ'/\VR σ' v u/\HR B w0 σ' hp' w')
def wj (P:Ax)(f:Az)(R:Af->Hp->Bc (Aw×Hp)):Prop:=
 ∀args hp v hp',R args hp=some (v,hp')-> ∀B w0 σ w args',VRL σ args args'->HR B w0 σ hp w-> ∀u,
  CallsDIn Fence.wide 0 P f args'.toArray u w (fun e u' w'=>u'=u/\ ∃σ' x,e= .returned x/\Sg.gr hp.nx hp'.nx σ σ'/\VR σ' v x/\HR B w0 σ' hp' w')
variable {σ:Sg}
def HR.touch {hp:Hp}{w:Be}(h:HR B w0 σ hp w){b:Nat}{o:Obj}(d:¬B b)(hl:∀i x q,hp.m.get i=some x->σ i=some q->q.blk≠b):HR B w0 σ hp {w with heap:=w.heap.setIfInBounds b o}:=by
 refine⟨h.os,h.tape,h.output,by simpa using h.size,h.old,fun k hk=>?_,h.fresh,fun i x c=>?_,h.inj⟩
 ·have a:b≠k:=fun e=>d (by rw[e];exact hk);simp[LJ a,h.kept k hk]
 ·obtain⟨p,o',h1,h2,h3,h4⟩:=h.live i x c;refine⟨p,o',h1,h2,?_,h4⟩;have a:b≠p.blk:=(hl i x p c h1).symm;simp[LJ a,h3]
variable {tmps:Al}
def kJ {fn:Func}{vs us:Af}{w:Be}(h1:VRL σ vs us)(h2:(fn.results.toList.mapM (pV tmps):Sem (Af)).run P w= .ok us w):(results fn tmps).run P w= .ok (bI us) w/\VR σ (bI vs) (bI us):=by
 constructor
 ·have he:results fn tmps=(do let vs<-fn.results.mapM (pV tmps);pure (if h:vs.size=1 then vs[0]else .tuple vs):Sem Aw):=rfl;rw[he,Array.mapM_eq_mapM_toList,Kp,Sem.run_map,h2];simp only[Kl,Ku];congr 1;cases us with
  |nil=>rfl|cons x us=>cases us<;>rfl
 ·cases vs with
  |nil=>rw[h1.unnil];exact VRL.to_tuple (MF σ)|cons x vs=>
   obtain⟨y,c,rfl,b,a⟩:=h1.uncons;cases vs with
   |nil=>rw[a.unnil];exact b|cons f vs=>obtain⟨y2,d,rfl,_,_⟩:=a.uncons;exact h1.to_tuple
variable {runD:Az->Af->Hp->Bc (Aw×Hp)}
theorem sE (V:∀g,wj P g (runD g)){fn:Func}{R:Ending->Be->Prop}:∀(ds:List Df) (D:List Deferred) (hp hp':Hp) (σ:Sg) (w:Be),I3 P runD ds hp=some hp'->DsR σ ds D->HR B w0 σ hp w->(∀σ' w',Sg.gr hp.nx hp'.nx σ σ'->HR B w0 σ' hp' w'->LeavesIn Fence.wide 0 P fn tmps R [] .returning w')->LeavesInM Fence.wide 0 P fn tmps R D .returning w:=by
 intro ds;induction ds with
 |nil=>
  intro D hp hp' σ w h hd hw k;simp only[I3,JL]at h;subst h;cases D with
  |nil=>exact k σ w (Mq _ σ) hw|cons d D=>exact hd.elim
 |cons x ds N=>
  intro D hp hp' σ w h hd hw k;cases D with
  |nil=>cases x<;>exact hd.elim
  |cons d D=>
   obtain⟨hx,hd⟩:=hd;cases x with
   |mark r=>
    simp only[I3]at h;split at h
    ·rename_i K;obtain⟨p,hp1,b⟩:=hx;obtain⟨p',o,q1,q2,W,E⟩:=hw.live r _ K;have:p'=p:=Km (q1.symm.trans hp1);subst this;have E:o= .deferred (some []):=E;subst E;have C:=(HR.drop hw r).touch (o:= .deferred none) q2 (fun i x q hi hq e=>by
      have hi:(hp.m.set r none).get i=some x:=hi;rw[Mw]at hi;by_cases c:i=r
      ·grind
      ·rw[Kg c]at hi;exact hw.inj i r x _ q p' hi K c hq q1 e)
     exact⟨by simp,.inl ⟨p'.blk,_,b,run_takeDeferred W,N D _ hp' σ _ h hd C k⟩⟩
    ·cases h
   |call g args cap=>
    simp only[I3]at h;obtain⟨a,b,t,u⟩:=hx;split at h
    ·rename_i O f;cases M:cC O with
     |false=>grind|true=>
      rw[M,Kc]at h;split at h
      ·rename_i v hp1 hr;refine⟨by simp,.inr ⟨fun h=>(by cases h),.func g,a,g,(d.args.toList++a.toList).toArray,b,?_,fun _ _=>trivial,?_⟩⟩
       ·rw[b];have:(d.args.toList++a.toList).toArray=d.args++a:=by apply Lr;simp
        rw[this];exact cG f M w
       ·refine CallsDIn.mono (V g (args++cap) hp v hp1 hr B w0 σ w _ (t.append u) hw .returning) fun e X w' he=>?_;obtain⟨rfl,J,x,rfl,gr,_,A⟩:=he;exact N D hp1 hp' J w' h (hd.mono gr.le) A fun σ' G U z=>k σ' G (Mr gr U) z
      ·cases h
    ·cases h
variable {dr:Q1}{call:c7}
theorem vH (d:dz P dr)(K:L8 P call)(J:∀g,wj P g (runD g))(n:Nat)(g:Az):Cy P g (V2 P dr call runD n g):=by
 intro args hp v hp' h B w0 σ w args' ha hw;simp only[V2]at h;split at h
 ·rename_i fn f;split at h
  ·rename_i c hc;have G:∀e tm1 hp1 a,(e= .normal\/e= .ret)->f9 P dr call (args.length+(fn.ntmps-args.length)) none n c (fill .e 0 args) hp []=some (.mk e tm1 hp1 a)->
     jO P fn runD tm1 hp1 a=some (v,hp')->
     Calls P g args'.toArray w (fun e w'=>∃σ' u,e= .returned u/\Sg.gr hp.nx hp'.nx σ σ'/\VR σ' v u/\HR B w0 σ' hp' w'):=by
    intro e tm1 hp1 a he hx hr;unfold jO at hr;split at hr
    ·rename_i hp2 p;split at hr
     ·rename_i vs t;simp only[JL,JN]at hr;obtain⟨rfl,rfl⟩:=hr;refine callsIn_wide.1 (callsIn_of_wp_marks (n:=0) f hc trivial (LN ((O0 (B:=B) (w0:=w0) K d n).1 c _ hp [] e tm1 hp1 a σ {tmps:=args'.toArray++Array.replicate (fn.ntmps-args'.toArray.size) undef,defers:=[]} w none hx (TR.start ha fn.ntmps) hw trivial trivial) fun e' a' w' hq=>?_));obtain⟨rfl,σ',o,hd,ht,z⟩:=hq;have E:LeavesInM Fence.wide 0 P fn a'.tmps (fun e w'=>∃σ' u,e= .returned u/\Sg.gr hp.nx hp2.nx σ σ'/\VR σ' (bI vs) u/\HR B w0 σ' hp2 w') a'.defers .returning w':=
       sE J a a'.defers hp1 hp2 σ' w' p hd z fun A O C b=>by obtain⟨us,q,r⟩:=P7 (ht.mono C.le) b t;obtain⟨M,N⟩:=kJ q r;exact⟨_,M,A,_,rfl,Mr o C,N,b⟩
      rcases he with rfl|rfl
      ·exact E
      ·exact E
     ·cases hr
    ·cases hr
   grind
  ·cases h
 ·cases h
theorem su (f:dz P dr)(G:L8 P call)(n:Nat)(g:Az):wj P g (P5 P dr call n g):=by
 intro args hp v hp' h B w0 σ w args' ha hw A;simp only[P5]at h;split at h
 ·rename_i fn o;split at h
  ·rename_i c hc;have C:∀e tm1 hp1,(e= .normal\/e= .ret)->f9 P dr call (args.length+(fn.ntmps-args.length)) none n c (fill .e 0 args) hp []=some (.mk e tm1 hp1 [])->
     jO P fn (fun _ _ _=>none) tm1 hp1 []=some (v,hp')->
     CallsDIn Fence.wide 0 P g args'.toArray A w (fun e J w'=>J=A/\ ∃σ' u,e= .returned u/\Sg.gr hp.nx hp'.nx σ σ'/\VR σ' v u/\HR B w0 σ' hp' w'):=by
    intro e tm1 hp1 he hx hr;unfold jO at hr;simp only[I3]at hr;split at hr
    ·rename_i vs r;simp only[JL,JN]at hr;obtain⟨rfl,rfl⟩:=hr;refine callsDIn_of_wp (R:=fun e w'=>∃σ' u,e= .returned u/\Sg.gr hp.nx hp1.nx σ σ'/\VR σ' (bI vs) u/\HR B w0 σ' hp1 w') (n:=0) o hc trivial
      (LN ((O0 (B:=B) (w0:=w0) G f n).1 c _ hp [] e tm1 hp1 [] σ {tmps:=args'.toArray++Array.replicate (fn.ntmps-args'.toArray.size) undef,defers:=[]} w none hx (TR.start ha fn.ntmps) hw trivial trivial) fun e' a' w' hq=>?_)
     obtain⟨rfl,σ',b,hd,ht,a⟩:=hq;obtain⟨us,p,q⟩:=P7 ht a r;obtain⟨t,z⟩:=kJ p q;have hd:a'.defers=[]:=by
      cases E:a'.defers with
      |nil=>rfl|cons d D=>rw[E]at hd;exact hd.elim
     rcases he with rfl|rfl
     ·exact⟨hd,_,t,σ',_,rfl,b,z,a⟩
     ·exact⟨hd,_,t,σ',_,rfl,b,z,a⟩
    ·cases hr
   grind
  ·cases h
 ·cases h
def pU {σ:Sg}{nt:Nat}:∀(ps:List Tmp) (xs ys:Af) (tm:Ao) (tmps:Al),sW nt ps=true->ps.length=xs.length->VRL σ xs ys->TR σ nt tm tmps->TR σ nt (rN tm ps xs) ((ps.zip ys).foldl (fun tmps (x:Tmp×Aw)=>tmps.setIfInBounds x.1 x.2) tmps)
 | [],xs,ys,tm,tmps,_,_,_,h=>by cases xs<;>simpa [rN]using h
 |t::c,[],ys,tm,tmps,_,hl,_,_=>by simp at hl|t::c,x::xs,ys,tm,tmps,ha,hl,d,h=>by obtain⟨y,b,rfl,a,hr⟩:=d.uncons;simp only[sW,JM]at ha;exact pU c xs b _ _ ha.2 (by simpa using hl) hr (h.put (JP ha.1) a)
def je {hp:Hp}{w:Be}(hw:HR B w0 σ hp w){i:Nat}{p:Pl}(hi:σ i=some p){st:LoopState}{pend:Bc Code}{nt:Nat}{tms:Ao}{ps:Array Tmp}{assign body:Code}{db:Nat}(b:hp.m.get i=some (.loop st pend nt tms ps assign body db))(a:Bc Code):∃w',(Instr.endRound p.blk a).run P w= .ok (.bool a.isNone) w'/\HR B w0 σ {hp with m:=hp.m.set i (some (.loop (if a.isNone then .ready else .done) a nt tms ps assign body db))} w':=by obtain⟨p',o,q1,q2,q,r⟩:=hw.live i _ b;have:p'=p:=Km (q1.symm.trans hi);subst this;obtain⟨t,rfl,k1,k2,k3,c,d,f,h⟩:=r;exact⟨_,run_endRound a q,HR.setO hw b q1 ⟨_,rfl,rfl,rfl,k3,c,d,f,h⟩⟩
theorem sI (K:dz P dr)(ih:L8 P call)(m:Nat):∀i args hp v hp',sH P dr call m i args hp=some (v,hp')-> ∀B w0 σ w args' p,σ i=some p->VRL σ args args'->HR B w0 σ hp w-> ∃r,w.heap[p.blk]? =some (.loop r)/\args'.length=r.params.size/\RoundIn Fence.wide 0 P p.blk r.fn ((r.params.zip args'.toArray).foldl (fun tmps (t,a)=>tmps.setIfInBounds t a) r.tmps) r.assign r.body w (fun e w'=>∃σ' u,e= .returned u/\Sg.gr hp.nx hp'.nx σ σ'/\VR σ' v u/\HR B w0 σ' hp' w'):=by
 intro i args hp v hp' h B w0 σ w args' p hi ha hw;unfold sH at h;split at h
 ·rename_i pend nt tms ps assign body db hg;cases hb:Nat.beq ps.toList.length args.length&&sW nt ps.toList with
  |false=>grind|true=>
   rw[hb,Kc]at h;simp only[JM]at hb;have f:=JQ hb.1;obtain⟨p',o,q1,q2,q3,q4⟩:=hw.live i _ hg;have:p'=p:=Km (q1.symm.trans hi);subst this;obtain⟨b,rfl,k1,k2,rfl,rfl,rfl,k6,k7⟩:=q4;refine⟨b,q3,by rw[<-ha.1,<-f];simp,?_⟩;have q:(b.params.zip args'.toArray).foldl (fun tmps (x:Tmp×Aw)=>tmps.setIfInBounds x.1 x.2) b.tmps=(b.params.toList.zip args').foldl (fun tmps (x:Tmp×Aw)=>tmps.setIfInBounds x.1 x.2) b.tmps:=by rw[<-Array.foldl_toList,Array.toList_zip]
   have N:=pU b.params.toList args args' tms b.tmps hb.2 f ha ⟨k6.1,k6.2⟩;rw[<-q]at N;split at h
   ·rename_i tm1 hp1 E hx;refine roundIn_of_wpIn (F:=Fence.wide) trivial (LN ((O0 (B:=B) (w0:=w0) ih K m).1 b.assign _ hp [] .normal tm1 hp1 E σ {tmps:=_,defers:=[]} w (some p'.blk) hx N hw trivial ⟨p',hi,rfl⟩) fun e1 a1 w1 Y=>?_);obtain⟨rfl,ae,G,hd1,ht1,O⟩:=Y;have c:=G.le _ _ hi;split at h
    ·rename_i p1 n1 t1 r1 U V W M;obtain⟨p2,o2,u1,u2,u3,u4⟩:=O.live i _ M;have:p2=p':=Km (u1.symm.trans c);subst this;obtain⟨R,rfl,m1,m2,m3,m4,m5,m6,m7⟩:=u4;refine⟨_,run_beginRound u3 m1,?_⟩;have aa:=HR.setO (b':= .loop .busy p1 n1 t1 r1 U V W) O M c (o:= .loop {R with state:= .busy}) ⟨_,rfl,rfl,m2,m3,m4,m5,m6,m7⟩;split at h
     ·rename_i e ad hp2 X ab;refine LN ((O0 (B:=B) (w0:=w0) ih K m).1 b.body _ _ E e ad hp2 X ae a1 _ (some p2.blk) ab ht1 aa hd1 ⟨p2,c,rfl⟩) fun e2 a2 w2 Z=>?_;obtain⟨rfl,d,J,_,_,C⟩:=Z;have A:=J.le _ _ c;have gr:Sg.gr hp.nx hp2.nx σ d:=Mr G J;split at h
      ·rename_i ak ac n3 t3 r3 ah ai aj z;split at h
       ·simp only[JL,JN]at h;obtain⟨rfl,rfl⟩:=h;obtain⟨T,s1,s2⟩:=je (P:=P) C A z none;exact⟨_,T,s1,d,_,rfl,gr,.bool true,s2⟩
       ·simp only[JL,JN]at h;obtain⟨rfl,rfl⟩:=h;obtain⟨T,s1,s2⟩:=je (P:=P) C A z (some .ret);exact⟨_,T,s1,d,_,rfl,gr,.bool false,s2⟩
       ·rename_i id;cases h;obtain⟨T,s1,s2⟩:=je (P:=P) C A z (some (.exit id));exact⟨_,T,s1,d,_,rfl,gr,.bool false,s2⟩
       ·cases h
      ·cases h
     ·cases h
    ·cases h
   ·cases h
 ·cases h
theorem nE {r:Sg}{hp ha:Hp}{w w':Be}{i j a N:Nat}{M O:Blk}{Z ca:Nat}{c1 c2:Ao}{k k2 oa e z:Nat}{u:Aw}(hw:HR B w0 σ hp w)(ak:hp.m.get i=some M)(al:hp.m.get j=some O)(hr:HR (rest B σ ⟨(T.set .e i (some M)).set j (some O),hp.nx⟩ w) w r ha w')(gr:Sg.gr hp.nx ha.nx σ r)(hv:VR r (.slice (some ⟨a,oa,none⟩) Z ca) u)(ai:unk<=ca)(U:ha.m.get a=some (.cells c2 k2 e z))(hk:oa+k<=k2)(hc:∀x,x<k->c1.get x=c2.get (oa+x))(hN:ha.nx<=N):∃σ',Sg.gr hp.nx (N+1) σ σ'/\VR σ' (.slice (some ⟨N,0,none⟩) Z (c8 Z 0)) u/\HR B w0 σ' ⟨((hp.m.set i none).set j none).set N (some (.cells c1 k e z)),N+1⟩ w':=by
 have t:∀x b,((T.set .e i (some M)).set j (some O):T Blk).get x=some b->(x=i\/x=j)/\hp.m.get x=some b:=by
  intro x b c;rw[Mw]at c;by_cases hj:x=j
  ·grind
  ·rw[Kg hj,Mw]at c;by_cases hi:x=i
   ·grind
   ·rw[Kg hi]at c;simp[Mu]at c
 have ae:HR B w0 σ ⟨(T.set .e i (some M)).set j (some O),hp.nx⟩ w:=hw.less (fun x b c=>(t x b c).2);have hb:=ae.back hr;cases hv with
 | slice _ _ p _ _ c' X aa V =>
 have ab:r N=none:=hb.fresh N hN;have f:=Ms (σ:=r) (i:=N) {p with dl:=p.dl+oa} ab;have ao:=gr.nx;obtain⟨p',o,l1,l2,l3,l4⟩:=hb.live a _ U;have:p'=p:=Km (l1.symm.trans X);subst this;obtain⟨d,o',r1,r2,r3,_⟩:=hr.live a _ U;have:d=p':=Km (r1.symm.trans X);subst this;have old:∀x b,x≠N->((((hp.m.set i none).set j none).set N (some (.cells c1 k e z))):T Blk).get x=some b->hp.m.get x=some b/\ ∃q o,σ x=some q/\NB B q.blk b/\w.heap[q.blk]? =some o/\BR σ q b o/\rest B σ ⟨(T.set .e i (some M)).set j (some O),hp.nx⟩ w q.blk:=by
  intro x b A c;rw[Mw,Kg A,Mw]at c;by_cases hj:x=j
  ·grind
  ·rw[Kg hj,Mw]at c;by_cases hi:x=i
   ·grind
   ·rw[Kg hi]at c;obtain⟨q,o,h1,h2,h3,h4⟩:=hw.live x b c;refine⟨c,q,o,h1,h2,h3,h4,.inr ⟨(Ka.1 h3).1,fun y b' d hy ad=>?_⟩⟩;obtain⟨Y,K⟩:=t y b' hy;have ah:y≠x:=by rintro rfl;rcases Y with rfl|rfl<;>contradiction
    exact hw.inj y x _ _ d q K c ah ad h1
 refine⟨r.ext N {d with dl:=d.dl+oa},⟨Sg.le_trans gr.le f,fun x hx=>(Mo _ _ _ (by omega)).trans (gr.low x hx),by omega⟩,?_,?_⟩
 ·have:=VR.slice (σ:=r.ext N {d with dl:=d.dl+oa}) N 0 {d with dl:=d.dl+oa} Z (c8 Z 0) c' (Mp _ _ _) (.inr ⟨j1 _ _,by rw[G2 E6];exact V,.inl (G1 E6),by
   rcases aa with⟨_,h⟩| ⟨_,_,_,h⟩
   ·omega
   ·exact h⟩) V
  exact this
 ·refine⟨hb.os,hb.tape,hb.output,hb.size,hb.old,hb.kept,fun x hx=>(Mo _ _ _ (by have:N+1<=x:=hx;omega)).trans (hb.fresh x (by have:N+1<=x:=hx;omega)),?_,?_⟩
  ·intro x b c;by_cases hx:x=N
   ·subst hx;rw[Mw,Ki rfl]at c;simp only[JL]at c;subst c;obtain⟨C,R,G,e3,e4,e5⟩:=l4;refine⟨{d with dl:=d.dl+oa},o,Mp _ _ _,l2,l3,C,R,G,e3,(by show d.dl+oa+k<=d.siz;omega),fun y hy=>?_⟩;obtain⟨v,u,a1,a2,a3⟩:=e5 (oa+y) (by omega);exact⟨v,u,(hc y hy).trans a1,(by show C[d.dl+oa+y]? =some u;rw[KU];exact a2),a3.mono f⟩
   ·obtain⟨aj,q,o,h1,h2,h3,h4,h5⟩:=old x b hx c;exact⟨q,o,f _ _ (gr.le _ _ h1),h2,(hr.kept _ h5).trans h3,h4.mono (Sg.le_trans gr.le f)⟩
  ·intro x y b1 b2 p1 p2 hx hy W hp1 hp2;by_cases A:x=N
   ·subst A;have E:y≠x:=Ne.symm W;obtain⟨_,q,o,h1,_,_,_,h5⟩:=old y b2 E hy;have R:p1= {d with dl:=d.dl+oa}:=Km (hp1.symm.trans (Mp _ _ _));have G:p2=q:=Km (hp2.symm.trans (f _ _ (gr.le _ _ h1)));subst R;subst G;exact fun J=>r2 (J▸h5)
   ·obtain⟨ac,q,o,h1,_,_,_,h5⟩:=old x b1 A hx;have R:p1=q:=Km (hp1.symm.trans (f _ _ (gr.le _ _ h1)));subst R;by_cases E:y=N
    ·subst E;have G:p2= {d with dl:=d.dl+oa}:=Km (hp2.symm.trans (Mp _ _ _));subst G;exact fun J=>r2 (J▸h5)
    ·obtain⟨K,q2,o2,m1,_⟩:=old y b2 E hy;have G:p2=q2:=Km (hp2.symm.trans (f _ _ (gr.le _ _ m1)));subst G;exact hw.inj x y _ _ _ _ ac K W h1 m1
theorem sM {f:Az}{R:Af->Hp->Bc (Aw×Hp)}(hR:Cy P f R):Cy P f (sL R):=by
 intro args hp v hp' h B w0 σ w args' C hw;unfold sL at h;split at h;case h_2=>cases h
 rename_i i o0 l c x j o m cm;cases hb:Nat.ble unk c&&Nat.beq (D1 c) 0&& !(Nat.beq i j)&&Nat.ble (l+m) 67108864 with
 |false=>grind|true=>
 rw[hb,Kc]at h;simp only[JM]at hb;obtain⟨⟨⟨b1,b2⟩,b3⟩,b4⟩:=hb;have b1:=JP b1;have b4:=JP b4;split at h;case h_2=>cases h
 rename_i bi bj X Y;split at h;case h_2=>cases h
 rename_i a oa la ca ha b ob lb cb W hA hB;cases hb2:Nat.beq la lb&&Nat.ble unk ca&&Nat.ble unk cb with
 |false=>grind|true=>
 rw[hb2,Kc]at h;simp only[JM]at hb2;have d1:=JQ hb2.1.1;have d2:=JP hb2.1.2;have d3:=JP hb2.2;subst d1;split at h;case h_2=>cases h
 rename_i c1 k1 e1 z1 c2 k2 e2 z2 ac ad;cases hb3:Nat.ble (oa+la*z1) k1&&Nat.ble (ob+la*z1) k2&&Nat.beq e1 e2&&Nat.beq z1 z2 with
 |false=>grind|true=>
 rw[hb3,Kc]at h;simp only[JM]at hb3;have f0:=JP hb3.1.1.1;have f1:=JP hb3.1.1.2;have f2:=JQ hb3.1.2;have f3:=JQ hb3.2;subst f2;subst f3;split at h;case h_2=>cases h
 rename_i V v2 Z ae;cases d:dB (veq 100) V v2||clEq V v2 with
 |false=>rw[d]at h;cases h
 |true=>
 rw[d,Kc]at h;simp only[JL,JN]at h;obtain⟨rfl,rfl⟩:=h;have ai:V=v2:=by rw[Lm]at d;exact d.elim (bL (jH 100)) Gw
 subst ai;have ah:=(g9 Z).1;have t:∀x,x<la*z1->(fill .e 0 V).get x=c1.get (oa+x):=by intro x hx;rw[<-(g9 Z).2 x hx];exact v8 V x (by omega)
 have J:∀x,x<la*z1->(fill .e 0 V).get x=c2.get (ob+x):=by intro x hx;rw[<-(g9 ae).2 x hx];exact v8 V x (by omega)
 have U:∀x b,((T.set .e i (some bi)).set j (some bj):T Blk).get x=some b->hp.m.get x=some b:=by
  intro x b hg;rw[Mw]at hg;by_cases hj:x=j
  ·grind
  ·rw[Kg hj,Mw]at hg;by_cases hi:x=i
   ·grind
   ·rw[Kg hi]at hg;simp[Mu]at hg
 have A:=(hw.less U).max;obtain⟨s',r,rfl,hs,q⟩:=C.uncons;cases hs with
 | slice _ _ p _ _ c' ab al E =>
 obtain⟨ak,z⟩:L6 c<=c'/\p.dl+o0+c'*p.esz<=p.siz:=by grind
 have aa:l+m<unk:=by unfold unk;omega
 by_cases G:l+m<=c'
 ·have K:VR σ (.slice (some ⟨i,o0,none⟩) l (c8 (l+m) 0)) (.slice (some ⟨p.blk,p.dl+o0,none⟩) l c'):=
   .slice i o0 p l _ c' ab (.inr ⟨j1 _ _,by rw[G2 E6];exact G,.inl (G1 E6),z⟩) E
  refine(hR _ _ _ _ hA _ _ _ _ _ (ME K q) A).mono fun e w' he=>?_;obtain⟨aj,u,rfl,gr,M,O⟩:=he;obtain⟨σ',q1,q2,q3⟩:=nE (N:=Nat.max ha.nx W.nx) hw X Y O gr M d2 ac f0 t (Nat.le_max_left _ _);exact⟨σ',u,rfl,q1,q2,q3⟩
 ·have K:VR σ (.slice (some ⟨i,o0,none⟩) l (c8 l (l+m))) (.slice (some ⟨p.blk,p.dl+o0,none⟩) l c'):=
   .slice i o0 p l _ c' ab (.inr ⟨j1 _ _,by rw[G2 aa];exact E,.inr (by rw[G1 aa];omega),z⟩) E
  refine(hR _ _ _ _ hB _ _ _ _ _ (ME K q) A).mono fun e w' he=>?_;obtain⟨aj,u,rfl,gr,M,O⟩:=he;obtain⟨σ',q1,q2,q3⟩:=nE (N:=Nat.max ha.nx W.nx) hw X Y O gr M d3 ad f1 J (Lg _ _);exact⟨σ',u,rfl,q1,q2,q3⟩
def Jz {hp:Hp}{w:Be}(hw:HR B w0 σ hp w){args args':Af}(h:VRL σ args args'):VRL σ (wkA hp args) args':=by
 unfold wkA;split
 ·rename_i i o l c xs;cases hc:Nat.ble c 67108864 with
  |false=>exact h|true=>
  rw[Kc];split
  ·rename_i cs k e z f;cases hk:Nat.ble (o+c*z) k with
   |false=>exact h|true=>
   rw[Kc];have hc:=JP hc;have hk:=JP hk;have d:c<unk:=by unfold unk;omega
   obtain⟨y,ys,rfl,h1,h2⟩:=h.uncons;refine ME ?_ h2;cases h1 with
   |slice _ _ p _ _ c' b a hl=>
    obtain⟨k1,k2⟩:=hw.place f b;rcases a with⟨rfl,_⟩| ⟨a,_⟩
    ·exact .slice i o p l _ _ b (.inr ⟨j1 _ _,by rw[G2 (by unfold unk;omega)];exact Kj _,.inl (G1 (by unfold unk;omega)),by rw[k2];omega⟩) hl
    ·omega
  ·exact h
 ·exact h
theorem tj (a:dz P dr){ov:Aa}(b:∀g t,ov g=some t->dq P g t):∀n,L8 P (aO P dr ov n):=by
 intro n;induction n with
 |zero=>exact⟨(fun g args hp v hp' h=>by cases h),b,(fun i args hp v hp' h=>by cases h)⟩|succ n c=>
  refine⟨fun g args hp v hp' h=>?_,b,sI a c n⟩;simp only[aO,fU]at h;cases ht:isT (ov g)&&args.isEmpty with
  |true=>
   rw[ht,Kc]at h;cases h;rw[JM]at ht;intro B w0 σ w args' ha hw;obtain rfl:=List.isEmpty_iff.1 ht.2;obtain rfl:=ha.unnil;have h1:=ht.1;unfold isT at h1;split at h1
   ·rename_i t e;rcases b g t e with⟨_,k⟩| ⟨k,_⟩
    ·exact(k w).mono fun e w' he=>⟨σ,_,he.1,Mq _ σ,.bool true,hw.below he.2⟩
    ·simp_all
   ·cases h1
  |false=>
  rw[ht,Ke]at h;have hb:=vH a c (su a c n) n g;intro B w0 σ w args' ha hw;have ha:VRL σ (bif wkF P g then wkA hp args else args) args':=by
   cases wkF P g with
   |true=>exact Jz hw ha|false=>exact ha
  split at h
  ·rename_i r hr;cases h;exact hb _ hp v hp' hr B w0 σ w args' ha hw
  ·exact sM hb _ hp v hp' h B w0 σ w args' ha hw
end
end Go.Xe
end PartXmS
noncomputable section PartXm13
namespace Go.Xe
open Go.RowKit
structure Ent where
 i:Nat
 o:Oper
 pre:Nat
 tm:Ao
 S:Hp
 S2:Hp
 I:Nat
 wt:Bool
 r:Aw
 nw:Bc Nw
def takes (nx0:Nat)(m:Nat->Bool):List Ent->Hp->Hp
 | [],S=>S|e::es,S=>match e.nw with
  |some n=>bif m e.i then takes nx0 m es (S.take (nx0+e.i) n)else takes nx0 m es S|none=>takes nx0 m es S
def ee (pre I:Nat)(j:Nat):Bool:=pre.testBit j&& !I.testBit j
def ea (I:Nat)(j:Nat):Bool:= !I.testBit j
structure Out where
 tm:Ao
 S:Hp
 I:Nat
 es:List Ent
def xgo (P:Ax)(call:c7)(nt:Nat)(all:An)(nx0:Nat):List (Oper×Nat)->Nat->Ao->Hp->Nat->List Ent->Bc Out
 | [],_,tm,S,I,es=>some ⟨tm,S,I,es⟩| (o,pre)::rest,i,tm,S,I,es=>
  bif j4 nt o.dst then
   bif e9 all tm o then
    match d5 o.op with
    |0=>match xop P call tm S o.op with
     |some (v,_)=>xgo P call nt all nx0 rest (i+1) (j0 tm o.dst v) S I (⟨i,o,pre,tm,S,S,I,true,v,none⟩::es)|none=>none
    |1=>match xrd P tm S o.op with
     |some v=>xgo P call nt all nx0 rest (i+1) (j0 tm o.dst v) S I (⟨i,o,pre,tm,S,S,I,true,v,none⟩::es)|none=>none
    |2=>match xnw P tm o.op with
     |some n=>xgo P call nt all nx0 rest (i+1) (j0 tm o.dst (n.val (nx0+i))) S I (⟨i,o,pre,tm,S,S,I,true,n.val (nx0+i),some n⟩::es)|none=>none
    |_=>match xop P call tm (takes nx0 (ee pre I) es S) o.op with
     |some (v,S2)=>xgo P call nt all nx0 rest (i+1) (j0 tm o.dst v) S2 (I|||pre) (⟨i,o,pre,tm,S,S2,I,true,v,none⟩::es)|none=>none
   else xgo P call nt all nx0 rest (i+1) (j0 tm o.dst undef) S I (⟨i,o,pre,tm,S,S,I,false,undef,none⟩::es)
  else none
structure wk (P:Ax)(call:c7)(nt:Nat)(all:An)(nx0:Nat)(e:Ent)(es:List Ent)(tm':Ao)(S':Hp)(I':Nat):Prop where
 dst:j4 nt e.o.dst=true
 wt:e.wt=e9 all e.tm e.o
 tm:tm'=j0 e.tm e.o.dst e.r
 S2:e.S2=S'
 un:e.wt=false->e.r=undef/\e.nw=none
 low:(e.wt=false\/d5 e.o.op≠3)->S'=e.S/\I'=e.I
 k0:e.wt=true->d5 e.o.op=0-> ∀S,xop P call e.tm S e.o.op=some (e.r,S)
 k1:e.wt=true->d5 e.o.op=1->xrd P e.tm e.S e.o.op=some e.r
 k2:e.wt=true->d5 e.o.op=2-> ∃n,xnw P e.tm e.o.op=some n/\e.r=n.val (nx0+e.i)/\e.nw=some n
 k3:e.wt=true->3<=d5 e.o.op->xop P call e.tm (takes nx0 (ee e.pre e.I) es e.S) e.o.op=some (e.r,S')/\I'=e.I|||e.pre
 nw:d5 e.o.op≠2->e.nw=none
inductive L5 (P:Ax)(call:c7)(nt:Nat)(all:An)(nx0:Nat)(tmN:Ao)(SN:Hp)(IN:Nat):List Ent->List Ent->Ao->Hp->Nat->Prop
 |nil (es:List Ent):L5 P call nt all nx0 tmN SN IN es [] tmN SN IN
 | cons (e : Ent) (es s : List Ent) (tm' : Ao) (S' : Hp) (I' : Nat) (hi : e.i = es.length) (h : wk P call nt all nx0 e es tm' S' I')
   (hc:L5 P call nt all nx0 tmN SN IN (e::es) s tm' S' I'):L5 P call nt all nx0 tmN SN IN es (e::s) e.tm e.S e.I
def im (o:Op):d5 o<=3:=by unfold d5;split<;>omega
section
variable {P :Ax}{call:c7}{nt:Nat}{all:An}{nx0:Nat}{tmN:Ao}{SN:Hp}{IN:Nat}
theorem Cd :∀(ps:List (Oper×Nat)) (i:Nat) (tm:Ao) (S:Hp) (I:Nat) (es:List Ent) (a:Out),xgo P call nt all nx0 ps i tm S I es=some a->i=es.length-> ∃s,a.es=s.reverse++es/\s.map (fun e=>(e.o,e.pre))=ps/\L5 P call nt all nx0 a.tm a.S a.I es s tm S I:=by
 intro ps;induction ps with
 |nil=>intro i tm S I es a h hi;simp only[xgo,JL]at h;subst h;exact⟨[],rfl,rfl,.nil es⟩
 |cons p ps q=>
  intro i tm S I es a h hi;obtain⟨o,pre⟩:=p;simp only[xgo]at h;cases hd:j4 nt o.dst with
  |false=>grind|true=>
   rw[hd,Kc]at h;have next:∀(e:Ent) (S':Hp) (I':Nat),e.i=i->e.o=o->e.pre=pre->e.tm=tm->e.S=S->e.I=I->wk P call nt all nx0 e es (j0 tm o.dst e.r) S' I'->
     xgo P call nt all nx0 ps (i+1) (j0 tm o.dst e.r) S' I' (e::es)=some a->
     ∃s,a.es=s.reverse++es/\s.map (fun e=>(e.o,e.pre))=(o,pre)::ps/\L5 P call nt all nx0 a.tm a.S a.I es s tm S I:=by
    rintro e S' I' rfl rfl rfl rfl rfl rfl hs hx;obtain⟨s,h1,h2,h3⟩:=q _ _ _ _ _ _ hx (by simp[hi]);exact⟨e::s,by simp[h1],by simp[h2],.cons e es s _ _ _ hi hs h3⟩
   cases hw:e9 all tm o with
   |false=>rw[hw,Ke]at h;refine next ⟨i,o,pre,tm,S,S,I,false,undef,none⟩ S I rfl rfl rfl rfl rfl rfl ⟨hd,hw.symm,rfl,rfl,fun _=>⟨rfl,rfl⟩,fun _=>⟨rfl,rfl⟩,?_,?_,?_,?_,fun _=>rfl⟩ h<;>(intro hf;cases hf)
   |true=>
    rw[hw,Kc]at h;split at h
    ·rename_i hk;split at h
     ·rename_i v S2 hx;obtain⟨r,hr⟩:=oB (P:=P) (call:=call) (tm:=tm) hk;have b:r=some v:=by rw[hr]at hx;exact(i3 hx).1
      refine next ⟨i,o,pre,tm,S,S,I,true,v,none⟩ S I rfl rfl rfl rfl rfl rfl ⟨hd,hw.symm,rfl,rfl,fun hf=>(by cases hf),fun _=>⟨rfl,rfl⟩,fun _ _ S=>?_,fun _ h1=>?_,fun _ h1=>?_,fun _ h1=>?_,fun _=>rfl⟩ h
      ·rw[hr,b];rfl
      ·grind
      ·grind
      ·grind
     ·cases h
    ·rename_i hk;split at h
     ·rename_i v hx;refine next ⟨i,o,pre,tm,S,S,I,true,v,none⟩ S I rfl rfl rfl rfl rfl rfl ⟨hd,hw.symm,rfl,rfl,fun hf=>(by cases hf),fun _=>⟨rfl,rfl⟩,fun _ h1=>?_,fun _ _=>hx,fun _ h1=>?_,fun _ h1=>?_,fun _=>rfl⟩ h
      ·grind
      ·grind
      ·grind
     ·cases h
    ·rename_i hk;split at h
     ·rename_i n hx;refine next ⟨i,o,pre,tm,S,S,I,true,n.val (nx0+i),some n⟩ S I rfl rfl rfl rfl rfl rfl ⟨hd,hw.symm,rfl,rfl,fun hf=>(by cases hf),fun _=>⟨rfl,rfl⟩,fun _ h1=>?_,fun _ h1=>?_,fun _ _=>⟨n,hx,rfl,rfl⟩,fun _ h1=>?_,fun h1=>absurd hk h1⟩ h
      ·grind
      ·grind
      ·grind
     ·cases h
    ·rename_i c d f;have h3:d5 o.op=3:=by have:=im o.op;grind
     split at h
     ·rename_i v S2 hx;refine next ⟨i,o,pre,tm,S,S2,I,true,v,none⟩ S2 (I|||pre) rfl rfl rfl rfl rfl rfl ⟨hd,hw.symm,rfl,rfl,fun hf=>(by cases hf),fun hl=>?_,fun _ h1=>?_,fun _ h1=>?_,fun _ h1=>?_,fun _ _=>⟨hx,rfl⟩,fun _=>rfl⟩ h
      ·grind
      ·grind
      ·grind
      ·grind
     ·cases h
variable {es:List Ent}{S:Hp}{I:Nat}
theorem L5.get {s:List Ent}{tm:Ao}(h:L5 P call nt all nx0 tmN SN IN es s tm S I):∀ {k:Nat} {e:Ent},s[k]? =some e->e.i=es.length+k/\ ∃tm' S' I',wk P call nt all nx0 e ((s.take k).reverse++es) tm' S' I'/\L5 P call nt all nx0 tmN SN IN (e::((s.take k).reverse++es)) (s.drop (k+1)) tm' S' I':=by
 induction h with
 |nil es=>grind|cons e0 es s tm' S' I' hi hs hc a=>grind
theorem L5.upTo {s:List Ent}{tm:Ao}(h:L5 P call nt all nx0 tmN SN IN es s tm S I):∀ {k:Nat} {e:Ent},s[k]? =some e->L5 P call nt all nx0 e.tm e.S e.I es (s.take k) tm S I:=by
 induction h with
 |nil es=>grind|cons e0 es s tm' S' I' hi hs hc a=>
  intro k e h;cases k with
  |zero=>simp only[Kb,JL]at h;subst h;exact .nil es|succ k=>simp only[JW]at h;exact .cons e0 es _ tm' S' I' hi hs (a h)
def L5.tm_none {s:List Ent}{tm:Ao}(h:L5 P call nt all nx0 tmN SN IN es s tm S I){t:Nat}(hn:∀e∈s,e.o.dst≠some t):tmN.get t=tm.get t:=by
 induction h with
 |nil es=>rfl|cons e0 es s tm' S' I' hi hs hc a=>
  rw[a (fun e he=>hn e (by simp[he])),hs.tm];have h0:=hn e0 (by simp);unfold j0;cases hd:e0.o.dst with
  |none=>rfl|some d=>simp only;rw[Mw,Kg (fun e=>h0 (by rw[hd,e]))]
theorem L5.tm_some {s:List Ent}{tm:Ao}(h:L5 P call nt all nx0 tmN SN IN es s tm S I):∀ {k:Nat} {e:Ent} {t:Nat},s[k]? =some e->e.o.dst=some t->(∀(j:Nat) e',s[j]? =some e'->j≠k->e'.o.dst≠some t)->tmN.get t=some e.r:=by
 induction h with
 |nil es=>grind|cons e0 es s tm' S' I' hi hs hc d=>
  intro k e t h hd b;cases k with
  |zero=>
   simp only[Kb,JL]at h;subst h;have a:∀e∈s,e.o.dst≠some t:=by intro e he;obtain⟨j,hj,rfl⟩:=List.mem_iff_getElem.1 he;exact b (j+1) _ (by simp[hj]) (by omega)
   rw[hc.tm_none a,hs.tm];unfold j0;rw[hd];simp only;rw[Mw,Ki rfl]
  |succ k=>simp only[JW]at h;exact d h hd (fun j e' hj c=>b (j+1) e' (by simpa using hj) (by omega))
theorem L5.still {s:List Ent}{tm:Ao}(h:L5 P call nt all nx0 tmN SN IN es s tm S I)(hn:∀e∈s,d5 e.o.op≠3):SN=S/\IN=I:=by
 induction h with
 |nil es=>grind|cons e0 es s tm' S' I' hi hs hc a=>obtain⟨h1,h2⟩:=a (fun e he=>hn e (by simp[he]));obtain⟨h3,h4⟩:=hs.low (.inr (hn e0 (by simp)));grind
end
section
variable {P :Ax}{B:BS}{w0:Be}{σ:Sg}{hp:Hp}{w:Be}
variable {id:Nat}
def Ext.take {a b b':Nat}{n n':Nw}(h:Ext B σ hp w id n b)(h':Ext B σ hp w a n' b')(hb:b≠b'):Ext B σ (hp.take id n) w a n' b':=by
 obtain⟨p,o,a1,a2,a3,a4,a5,f⟩:=h';obtain⟨q,D,t,u,_⟩:=h;refine⟨p,o,a1,a2,a3,a4,a5,?_⟩;intro i c r d hr;simp only[Hp.take,Mw]at d;by_cases hi:i=id
 ·subst hi;have:r=q:=Km (hr.symm.trans t);subst this;rw[u];exact hb
 ·rw[Kg hi]at d;exact f i c r d hr
def Ext.step {S1 S2:Hp}{b:Nat}{n:Nw}(h:Ext B σ S1 w id n b){σ':Sg}{w':Be}(k:HR (rest B σ S1 w) w σ' S2 w')(a:Sg.le σ σ'):Ext B σ' S2 w' id n b:=by
 obtain⟨p,o,a1,a2,a3,a4,a5,t⟩:=h;have hr:rest B σ S1 w b:= .inr ⟨(Ka.1 a3).1,fun i c q r hq=>t i c q r hq⟩;refine⟨p,o,a _ _ a1,a2,by rw[k.kept b hr];exact a3,a4.mono a,a5,?_⟩;intro i c q r hq f;obtain⟨v,D,u,d,_⟩:=k.live i c r;have:v=q:=Km (u.symm.trans hq);subst this;rw[f]at d;cases hc:aQ c with
 |true=>exact a5 (B.sub _ (d.yes hc))|false=>exact d.no hc hr
def Ext.lay {b b':Nat}{n':Nw}(h':Ext B σ hp w b n' b')(hw:HR B w0 σ hp w)(d:σ id=none)(r:Pl)(o:Obj):Ext B (σ.ext id r) hp (w.alloc o) b n' b':=by obtain⟨p,C,a1,a2,a3,a4,a5,u⟩:=h';have a:=Ms r d;refine⟨p,C,a _ _ a1,a2,by rw[Below.heap_alloc _ _ _ (Ka.1 a3).1];exact a3,a4.mono a,a5,?_⟩;intro i c q h hq;obtain⟨t,D,f,_⟩:=hw.live i c h;have:=(a _ _ f).symm.trans hq;have:t=q:=Km this;subst this;exact u i c t h f
theorem Fz {nx0:Nat}{m:Nat->Bool}:∀(es:List Ent) {hp:Hp},HR B w0 σ hp w->(∀(j:Nat) e n,es[j]? =some e->e.nw=some n->m e.i=true-> ∃b,Ext B σ hp w (nx0+e.i) n b)->(∀(j j':Nat) e e' n n' b b',es[j]? =some e->es[j']? =some e'->j≠j'->e.nw=some n->e'.nw=some n'->m e.i=true->m e'.i=true->Ext B σ hp w (nx0+e.i) n b->Ext B σ hp w (nx0+e'.i) n' b'->b≠b')->HR B w0 σ (takes nx0 m es hp) w/\(takes nx0 m es hp).nx=hp.nx/\ ∀a n' b',Ext B σ hp w a n' b'->(∀(j:Nat) e n b,es[j]? =some e->e.nw=some n->m e.i=true->Ext B σ hp w (nx0+e.i) n b->b≠b')->Ext B σ (takes nx0 m es hp) w a n' b':=by
 intro es;induction es with
 |nil=>intro hp hw _ _;exact⟨hw,rfl,fun a n' b' h _=>h⟩
 |cons e es C=>
  intro hp hw h1 h2;cases hn:e.nw with
  |none=>simp only[takes,hn];obtain⟨a1,a2,a3⟩:=C hw (fun j e n hj=>h1 (j+1) e n (by simpa using hj)) (fun j j' e e' n n' b b' hj c d=>h2 (j+1) (j'+1) e e' n n' b b' (by simpa using hj) (by simpa using c) (by omega));exact⟨a1,a2,fun a n' b' hx hd=>a3 a n' b' hx (fun j e n b hj=>hd (j+1) e n b (by simpa using hj))⟩
  |some n=>
   cases hm:m e.i with
   |false=>simp only[takes,hn,hm,Ke];obtain⟨a1,a2,a3⟩:=C hw (fun j e n hj=>h1 (j+1) e n (by simpa using hj)) (fun j j' e e' n n' b b' hj c d=>h2 (j+1) (j'+1) e e' n n' b b' (by simpa using hj) (by simpa using c) (by omega));exact⟨a1,a2,fun a n' b' hx hd=>a3 a n' b' hx (fun j e n b hj=>hd (j+1) e n b (by simpa using hj))⟩
   |true=>
    simp only[takes,hn,hm,Kc];obtain⟨b,hb⟩:=h1 0 e n rfl hn hm;have O:∀b2,Ext B σ hp w (nx0+e.i) n b2->b2=b:=by intro b2 hx;obtain⟨p,_,f,A,_⟩:=hx;obtain⟨q,_,M,N,_⟩:=hb;grind
    have keep:∀ {a:Nat} {n':Nw} {b':Nat},Ext B σ hp w a n' b'->b≠b'->Ext B σ (hp.take (nx0+e.i) n) w a n' b':=fun hx d=>hb.take hx d;have back:∀ {a:Nat} {n':Nw} {b' b2:Nat},Ext B σ hp w a n' b'->Ext B σ (hp.take (nx0+e.i) n) w a n' b2->b2=b':=by intro a n' b' b2 hx hy;obtain⟨p,_,f,A,_⟩:=hx;obtain⟨q,_,M,N,_⟩:=hy;grind
    obtain⟨a1,a2,a3⟩:=C (hp:=hp.take (nx0+e.i) n) (hw.take hb)
     (fun j e' n' hj u t=>by obtain⟨b',r⟩:=h1 (j+1) e' n' (by simpa using hj) u t;exact⟨b',keep r (h2 0 (j+1) e e' n n' b b' rfl (by simpa using hj) (by omega) hn u hm t hb r)⟩)
     (fun j j' o G v K b1 b2 hj c d k1 k2 k3 J E R=>by obtain⟨f,z⟩:=h1 (j+1) o v (by simpa using hj) k1 k3;obtain⟨A,y2⟩:=h1 (j'+1) G K (by simpa using c) k2 J;rw[back z E,back y2 R];exact h2 (j+1) (j'+1) o G v K f A (by simpa using hj) (by simpa using c) (by omega) k1 k2 k3 J z y2)
    refine⟨a1,a2,fun a n' b' hx hd=>a3 a n' b' (keep hx (hd 0 e n b rfl hn hm hb)) (fun j o v b1 hj k1 k3 E=>?_)⟩;obtain⟨f,z⟩:=h1 (j+1) o v (by simpa using hj) k1 k3;rw[back z E];exact hd (j+1) o v f (by simpa using hj) k1 k3 z
end
end Go.Xe
end PartXm13
noncomputable section PartXm14
namespace Go.Xe
open Go.RowKit
def xpre (pres:Ah)(o:Oper):Nat:=
 o.after.toList.foldl (fun s e=>bif Region.binds .any e then(s|||2^e.on)|||pres.getD e.on 0 else s) 0
def C4 :An->Ah->Ah
 | [],acc=>acc|o::os,acc=>C4 os (acc++ [xpre acc o])
def EC (s:Nat):Ba->Nat
 | .tmp t=>s|||2^t
 |_=>s
def mL (all:An)(o:Oper):Nat:=
 o.op.operands.toList.foldl EC (match o.guard with
  |some (g,_)=>match all[g]? with
   |some p=>match p.dst with
    |some d=>2^d|none=>0
   |none=>0
  |none=>0)
structure Inf where
 o:Oper
 pre:Nat
 i:Nat
 lk:Nat
 wr:Bool
def wG (all:An)(pres:Ah):List Inf:=((all.zip pres).zipIdx).map fun x=>⟨x.1.1,x.1.2,x.2,mL all x.1.1,Nat.beq (d5 x.1.1.op) 3⟩
def yG (o:Oper)(t:Nat):Bool:=match o.dst with|some d=>Nat.beq d t|none=>false
def s1 (pres:Ah)(x:Inf):Bool:=Nat.beq x.pre (xpre pres x.o)&&x.o.after.toList.all (fun e=> !(Region.binds .any e)||Nat.blt e.on x.i)
def s2 (x y:Inf):Bool:=
 bif Nat.beq x.i y.i then true else
  (match y.o.dst with
   |none=>true|some t=> !(yG x.o t)&&(bif x.lk.testBit t then(bif Nat.blt y.i x.i then x.pre.testBit y.i else y.pre.testBit x.i)else true))&&
  (bif x.wr&&y.wr&&Nat.blt y.i x.i then x.pre.testBit y.i else true)
def stat (all:An)(pres:Ah):Bool:=
 Nat.beq pres.length all.length&&(wG all pres).all (s1 pres)&&(wG all pres).all (fun x=>(wG all pres).all (s2 x))
def isW (e:Ent):Bool:=Nat.beq (d5 e.o.op) 3
def N4 (es:List Ent)(e:Ent)(k:Nat):Bool:=
 es.all fun y=>bif isW y then(bif Nat.blt y.i k then !(y.pre.testBit e.i)else !(e.pre.testBit y.i))else true
def own (es:List Ent)(e:Ent)(k:Nat):Bool:=
 es.all fun y=>bif isW y then(Nat.blt y.i k==Nat.blt y.i e.i)else true
def J2 (P:Ax)(es:List Ent)(e:Ent)(k:Nat)(S:Hp):Bool:=
 bif own es e k then true else bif N4 es e k then
  (match xrd P e.tm S e.o.op with
   |some v=>veq 1000 v e.r|none=>false)
 else true
def dyn (P:Ax)(S0:Hp)(es:List Ent):Bool:=
 es.all fun e=>bif e.wt&&Nat.beq (d5 e.o.op) 1 then J2 P es e 0 S0&&es.all (fun x=>bif isW x then J2 P es e (x.i+1) x.S2 else true)else true
def N3 (P:Ax):Q1:=fun call nt all tm hp=>
 bif stat all (C4 all [])then
  match xgo P call nt all hp.nx (all.zip (C4 all [])) 0 tm ⟨hp.m,hp.nx+all.length⟩ 0 []with
  |some out=>bif dyn P ⟨hp.m,hp.nx+all.length⟩ out.es then some (out.tm,takes hp.nx (ea out.I) out.es out.S)else none|none=>none
 else none
theorem mr {α:Type}(f:α->Nat->Bool)(g:Nat->α->Nat)(a:∀s x j,(g s x).testBit j=true↔(s.testBit j=true\/f x j=true)):∀(l:List α) (s:Nat) (j:Nat),(l.foldl g s).testBit j=true↔(s.testBit j=true\/ ∃x∈l,f x j=true)
 | [],s,j=>by simp|x::l,s,j=>by rw[List.foldl_cons,mr f g a l (g s x) j,a];grind
theorem Ck {pres:Ah}{o:Oper}{j:Nat}(h:(xpre pres o).testBit j=true):∃e∈o.after.toList,Region.binds .any e=true/\(e.on=j\/(pres.getD e.on 0).testBit j=true):=by
 unfold xpre at h;rw[mr (fun(e:Edge) j=>Region.binds .any e&&(decide (e.on=j)|| (pres.getD e.on 0).testBit j))]at h
 ·grind
 ·grind
theorem mM {all:An}{o:Oper}{t:Nat}:(mL all o).testBit t=true↔((∃g a p,o.guard=some (g,a)/\all[g]? =some p/\p.dst=some t)\/Operand.tmp t∈o.op.operands.toList):=by
 unfold mL;rw[mr (fun(x:Ba) j=>match x with| .tmp t=>decide (t=j)|_=>false)]
 ·constructor
  ·rintro (h| ⟨x,hx,h⟩)
   ·grind
   ·grind
  ·grind
 ·intro s x j;cases x<;>simp[EC,Nat.testBit_or,Nat.testBit_two_pow]
def lst (L:Array Bool)(j:Nat):Prop:=L.getD j false=true
section
variable {P :Ax}{B:BS}{w0:Be}{call:c7}{nt:Nat}{ops:Am}{pres:Ah}{nx0:Nat}{l:List Ent}{tm0 tmN:Ao}{S0 SN:Hp}{IN:Nat}
structure Fix (P:Ax)(call:c7)(nt:Nat)(ops:Am)(pres:Ah)(nx0:Nat)(l:List Ent)(tm0 tmN:Ao)(S0 SN:Hp)(IN:Nat):Prop where
 stat:stat ops.toList pres=true
 dyn:dyn P S0 l.reverse=true
 map:l.map (fun e=>(e.o,e.pre))=ops.toList.zip pres
 chain:L5 P call nt ops.toList nx0 tmN SN IN [] l tm0 S0 0
variable (F :Fix P call nt ops pres nx0 l tm0 tmN S0 SN IN)
include F
theorem Fix.plen :pres.length=ops.size:=by have:=F.stat;simp only[Xe.stat,JM]at this;simp_all
def Fix.len :l.length=ops.size:=by have:=congrArg List.length F.map;simpa [F.plen]using this
variable {j:Nat}
theorem Fix.ent {o:Oper}(h:ops[j]? =some o):∃e,l[j]? =some e/\e.o=o:=by
 have hj:j<ops.size:=(Ka.1 h).1;have a:j<l.length:=by rw[F.len];exact hj
 refine⟨l[j],by simp[a],?_⟩;have:=congrArg (fun x=>x[j]?) F.map;grind
variable {e:Ent}
theorem Fix.at_ (h:l[j]? =some e):ops[j]? =some e.o/\e.pre=pres.getD j 0/\e.i=j:=by have hm:=congrArg (fun x=>x[j]?) F.map;simp only[KL,h,KG]at hm;have:=List.getElem?_zip_eq_some.1 hm.symm;refine⟨by simpa using this.1,by simp[List.getD,this.2],?_⟩;have:=(F.chain.get h).1;grind
theorem Fix.inf (h:l[j]? =some e):(⟨e.o,e.pre,j,mL ops.toList e.o,Nat.beq (d5 e.o.op) 3⟩:Inf)∈wG ops.toList pres:=by have hm:=congrArg (fun x=>x[j]?) F.map;simp only[KL,h,KG]at hm;unfold wG;refine Lt.2 ⟨((e.o,e.pre),j),?_,rfl⟩;grind
theorem Fix.p1 (h:l[j]? =some e):(∀k,e.pre.testBit k=true-> ∃a∈e.o.after.toList,Region.binds .any a=true/\(a.on=k\/(pres.getD a.on 0).testBit k=true))/\ ∀a∈e.o.after.toList,Region.binds .any a=true->a.on<j:=by
 have hs:=F.stat;simp only[Xe.stat,JM,Kq]at hs;have:=hs.1.2 _ (F.inf h);simp only[s1,JM,Kq,Lm,KH]at this;have he:=JQ this.1;refine⟨fun k hk=>Ck (by rw[<-he];exact hk),fun a b hb=>?_⟩;rcases this.2 a b with h1|h1
 ·grind
 ·simp_all
variable {i:Nat}
theorem Fix.p2 {e':Ent}(hi:l[i]? =some e)(hj:l[j]? =some e')(a:i≠j):(∀t,e'.o.dst=some t->e.o.dst≠some t)/\(∀t,e'.o.dst=some t->(mL ops.toList e.o).testBit t=true->(j<i->e.pre.testBit j=true)/\(i<j->e'.pre.testBit i=true))/\(d5 e.o.op=3->d5 e'.o.op=3->j<i->e.pre.testBit j=true):=by
 have hs:=F.stat;simp only[Xe.stat,JM,Kq]at hs;have:=hs.2 _ (F.inf hi) _ (F.inf hj);simp only[s2]at this;rw[s7 a,Ke,JM]at this;obtain⟨h1,h2⟩:=this;refine⟨fun t ht hd=>?_,fun t ht hl=>?_,fun k1 k2 hlt=>?_⟩
 ·simp only[ht,JM,KH]at h1;have:=h1.1;simp only[yG,hd]at this;simp_all
 ·simp only[ht,JM,hl,Kc]at h1;have h3:=h1.2;constructor
  ·intro hlt;simp_all
  ·intro hlt;have:Nat.blt j i=false:=by
    cases hb:Nat.blt j i
    ·rfl
    ·simp_all;omega
   grind
 ·rw[l6 k1,l6 k2,show Nat.blt j i=true from JS hlt]at h2;grind
omit F
structure Inv (B:BS)(w0:Be)(P:Ax)(call:c7)(nt:Nat)(ops:Am)(nx0:Nat)(l:List Ent)(tm0 tmN:Ao)(S0 SN:Hp)(IN:Nat)(σ0:Sg)(D:List Deferred)(L:Array Bool)(a:Act)(w:Be)(σ:Sg)(k:Nat)(S:Hp)(I:Nat):Prop where
 size:L.size=ops.size
 down:∀j e,l[j]? =some e->lst L j-> ∀m,e.pre.testBit m=true->lst L m
 defers:a.defers=D
 tsz:a.tmps.size=nt
 tin:∀(j:Nat) e t,l[j]? =some e->lst L j->e.o.dst=some t->VR σ e.r (a.tmps.getD t undef)
 tout:∀t,(∀(j:Nat) e,l[j]? =some e->lst L j->e.o.dst≠some t)->VR σ ((tm0.get t).getD undef) (a.tmps.getD t undef)
 cut:∃tmk,L5 P call nt ops.toList nx0 tmN SN IN (l.take k).reverse (l.drop k) tmk S I
 norm:(k=0/\S=S0)\/ ∃e,0<k/\l[k-1]? =some e/\d5 e.o.op=3/\S=e.S2
 wr:∀(j:Nat) e,l[j]? =some e->d5 e.o.op=3->(lst L j↔j<k)
 hr:HR B w0 σ S w
 gr:Sg.gr nx0 S.nx σ0 σ
 room:nx0+ops.size<=S.nx
 none:∀(j:Nat) e n,l[j]? =some e->e.nw=some n-> ¬lst L j->σ (nx0+j)=none
 ext:∀(j:Nat) e n,l[j]? =some e->e.nw=some n->lst L j->I.testBit j=false-> ∃b,Ext B σ S w (nx0+j) n b
 apart:∀(j j':Nat) e e' n n' b b',l[j]? =some e->l[j']? =some e'->e.nw=some n->e'.nw=some n'->j≠j'->lst L j->lst L j'->I.testBit j=false->I.testBit j'=false->
  Ext B σ S w (nx0+j) n b->Ext B σ S w (nx0+j') n' b'->b≠b'
variable {L:Array Bool}
theorem t9 (hi:i<L.size):lst (L.setIfInBounds i true) j↔(lst L j\/j=i):=by
 unfold lst;by_cases h:j=i
 ·simp_all
 ·rw[getD_set_ne false (Ne.symm h)];simp[h]
theorem nW (h:L.getD i true=false):i<L.size/\ ¬lst L i:=by
 have hi:i<L.size:=by grind
 refine⟨hi,fun hl=>?_⟩;unfold lst at hl;grind
theorem pm {k:Nat}{tmk:Ao}{S:Hp}{I:Nat}(hc:L5 P call nt ops.toList nx0 tmN SN IN (l.take k).reverse (l.drop k) tmk S I)(he:l[i]? =some e)(hk:k<=i)(hn:∀(j:Nat) e',l[j]? =some e'->k<=j->j<i->d5 e'.o.op≠3):e.S=S/\e.I=I:=by
 have h1:(l.drop k)[i-k]? =some e:=by grind
 refine(hc.upTo h1).still fun e' hm=>?_;obtain⟨m,a⟩:=KQ.1 hm;grind
include F
theorem Fix.seen {σ0:Sg}{D:List Deferred}{a:Act}{w:Be}{σ:Sg}{k:Nat}{S:Hp}{I:Nat}(V:Inv B w0 P call nt ops nx0 l tm0 tmN S0 SN IN σ0 D L a w σ k S I)(he:l[i]? =some e)(c:∀m,e.pre.testBit m=true->lst L m)(hi:¬lst L i){t:Nat}(ht:(mL ops.toList e.o).testBit t=true):VR σ ((e.tm.get t).getD undef) (a.tmps.getD t undef):=by
 have hp:=F.chain.upTo he;by_cases hx:∃(j:Nat) (e':Ent),j<i/\l[j]? =some e'/\e'.o.dst=some t
 ·obtain⟨j,e',hlt,hj,hd⟩:=hx;have b:lst L j:=c j (((F.p2 he hj (by omega)).2.1 t hd ht).1 hlt);have:=hp.tm_some (k:=j) (e:=e') (t:=t) (by rw[Kt,Ki hlt];exact hj) hd (fun m r hm h d=>by
   rw[Kt]at hm;split at hm
   ·exact(F.p2 hm hj h).1 t hd d
   ·exact absurd hm (by simp))
  rw[this];exact V.tin j e' t hj b hd
 ·have p:∀e'∈l.take i,e'.o.dst≠some t:=by intro e' hm hd;obtain⟨m,q⟩:=KQ.1 hm;grind
  rw[hp.tm_none p];refine V.tout t fun j e' hj b hd=>?_;by_cases f:j=i
  ·grind
  ·rcases Nat.lt_or_ge j i with hlt|hge
   ·grind
   ·exact hi (V.down j e' hj b i (((F.p2 he hj (Ne.symm f)).2.1 t hd ht).2 (by omega)))
end
theorem wa {σ:Sg}{tm:Ao}{tmps:Al}(ops:Am)(o:Oper)(h:∀g a p d,o.guard=some (g,a)->ops.toList[g]? =some p->p.dst=some d->VR σ ((tm.get d).getD undef) (tmps.getD d undef)):Region.wanted o (yielded ops tmps)=e9 ops.toList tm o:=by
 unfold Region.wanted e9;cases b:o.guard with
 |none=>rfl|some f=>
  obtain⟨j,a⟩:=f;simp only;have hy:yielded ops tmps j=q9 ops.toList tm j:=by
   unfold yielded q9;rw[Array.getElem?_toList];cases hj:ops[j]? with
   |none=>rfl|some p=>
    simp only[Option.bind_some];cases hd:p.dst with
    |none=>rfl|some d=>
     simp only[Option.bind_some];have:=h j a p d b (by simpa using hj) hd;by_cases hlt:d<tmps.size
     ·have e:tmps[d]? =some tmps[d]:=by simp[hlt]
      have c:tmps.getD d undef=tmps[d]:=by simp_all
      rw[c]at this;rw[e];cases b:tm.get d with
      |none=>rw[b,Option.getD_none]at this;generalize tmps[d]=x at this;cases this;rfl
      |some v=>rw[b,KC]at this;generalize tmps[d]=x at this;cases this<;>rfl
     ·have e:tmps[d]? =none:=Array.getElem?_eq_none (Lp hlt);have c:tmps.getD d undef=undef:=by grind
      rw[c]at this;rw[e];cases b:tm.get d with
      |none=>rfl|some v=>rw[b,KC]at this;unfold undef at this;cases this;rfl
  grind
end Go.Xe
end PartXm14
noncomputable section PartXm15
namespace Go.Xe
open Go.RowKit
section
variable {P :Ax}{B:BS}{w0:Be}{call:c7}{nt:Nat}{ops:Am}{pres:Ah}{nx0:Nat}{l:List Ent}{tm0 tmN:Ao}{S0 SN:Hp}{IN:Nat}
variable (F :Fix P call nt ops pres nx0 l tm0 tmN S0 SN IN)
include F
variable {i:Nat}
theorem Fix.before {j:Nat}{e:Ent}(hi:i<=l.length)(h:((l.take i).reverse)[j]? =some e):j<i/\l[i-1-j]? =some e/\e.i=i-1-j:=by
 have a:(l.take i).length=i:=by grind
 have hj:j<i:=by grind
 rw[List.getElem?_reverse (by rw[a];exact hj),a,Kt,Ki (by omega)]at h;exact⟨hj,h,(F.at_ h).2.2⟩
variable {σ σ0:Sg}{D:List Deferred}{L:Array Bool}{I k:Nat}{S:Hp}
theorem Fix.takes {a:Act}{w:Be}(V:Inv B w0 P call nt ops nx0 l tm0 tmN S0 SN IN σ0 D L a w σ k S I)(hi:i<=l.length)(m:Nat->Bool)(hm:∀j,j<i->m j=true->lst L j/\I.testBit j=false):HR B w0 σ (Xe.takes nx0 m (l.take i).reverse S) w/\(Xe.takes nx0 m (l.take i).reverse S).nx=S.nx/\ ∀(j:Nat) e n b,l[j]? =some e->e.nw=some n->lst L j->I.testBit j=false->(j<i->m j=false)->Ext B σ S w (nx0+j) n b->Ext B σ (Xe.takes nx0 m (l.take i).reverse S) w (nx0+j) n b:=by
 have H:=Fz (B:=B) (w0:=w0) (σ:=σ) (w:=w) (nx0:=nx0) (m:=m) (l.take i).reverse V.hr
  (fun j e n hj hn f=>by obtain⟨h1,h2,h3⟩:=F.before hi hj;obtain⟨h4,h5⟩:=hm _ (by omega:i-1-j<i) (h3▸f);rw[h3];exact V.ext _ e n h2 hn h4 h5)
  (fun j j' e e' n n' b b' hj d G hn h f c z A=>by obtain⟨h1,h2,h3⟩:=F.before hi hj;obtain⟨C,q,o⟩:=F.before hi d;obtain⟨h4,h5⟩:=hm _ (by omega:i-1-j<i) (h3▸f);obtain⟨r,t⟩:=hm _ (by omega:i-1-j'<i) (o▸c);rw[h3]at z;rw[o]at A;exact V.apart _ _ e e' n n' b b' h2 q hn h (by omega) h4 r h5 t z A)
 refine⟨H.1,H.2.1,fun j e n b hj hn v u E hx=>H.2.2 _ n b hx fun j' e' n' b' d h c p=>?_⟩;obtain⟨C,q,o⟩:=F.before hi d;obtain⟨r,t⟩:=hm _ (by omega:i-1-j'<i) (o▸c);rw[o]at p;refine V.apart _ _ e' e n' n b' b q hj h hn ?_ r v t u p hx;grind
theorem Fix.read {a:Act}{w:Be}(V:Inv B w0 P call nt ops nx0 l tm0 tmN S0 SN IN σ0 D L a w σ k S I){e:Ent}(he:l[i]? =some e)(u:∀m,e.pre.testBit m=true->lst L m)(hi:¬lst L i)(hw:e.wt=true)(C:d5 e.o.op=1):xrd P e.tm S e.o.op=some e.r:=by
 have q:e.i=i:=(F.at_ he).2.2;have b:∀ {j:Nat} {y:Ent},l[j]? =some y->y∈l.reverse:=fun h=>List.mem_reverse.2 (JV h);have t:∀ {y:Ent},y∈l.reverse-> ∃j,l[j]? =some y/\y.i=j:=fun h=>by obtain⟨j,hj⟩:=KQ.1 (List.mem_reverse.1 h);exact⟨j,hj,(F.at_ hj).2.2⟩
 have f:N4 l.reverse e k=true:=by
  unfold N4;rw[Kq];intro y hy;obtain⟨j,hj,K⟩:=t hy;cases d:isW y with
  |false=>rfl|true=>
   have h3:d5 y.o.op=3:=JQ d;rw[Kc];rw[K,q];by_cases hlt:j<k
   ·rw[show Nat.blt j k=true from JS hlt,Kc];have G:=(V.wr j y hj h3).2 hlt;cases hb:y.pre.testBit i with
    |false=>rfl|true=>exact absurd (V.down j y hj G i hb) hi
   ·have hb:Nat.blt j k=false:=by
     cases hb:Nat.blt j k
     ·rfl
     ·simp_all;omega
    rw[hb,Ke];cases hb2:e.pre.testBit j with
    |false=>rfl|true=>exact absurd ((V.wr j y hj h3).1 (u j hb2)) hlt
 obtain⟨tm',S',I',hs,N⟩:=(F.chain.get he).2;have hr:=hs.k1 hw C;have A:J2 P l.reverse e k S=true->xrd P e.tm S e.o.op=some e.r:=by
  intro hl;unfold J2 at hl;cases z:own l.reverse e k with
  |true=>
   have J:∀(j:Nat) y,l[j]? =some y->d5 y.o.op=3->(j<k↔j<i):=by
    intro j y hj h3;unfold own at z;rw[Kq]at z;have:=z y (b hj);have d:isW y=true:=l6 h3;rw[d,Kc,(F.at_ hj).2.2,q]at this;constructor
    ·intro hlt;rw[show Nat.blt j k=true from JS hlt]at this;simp_all
    ·intro hlt;rw[show Nat.blt j i=true from JS hlt]at this;simp_all
   have E:k<=i:=by
    rcases V.norm with⟨h0,_⟩| ⟨y,h0,hy,h3,_⟩
    ·omega
    ·grind
   obtain⟨tmk,p⟩:=V.cut;have M:=(pm p he E (fun j y hj h1 h2 h3=>by have:=(J j y hj h3).2 h2;omega)).1;grind
  |false=>
   rw[z,Ke,f,Kc]at hl;split at hl
   ·rename_i v O;rw[O,jH _ _ _ hl]
   ·cases hl
 have hd:=F.dyn;unfold Xe.dyn at hd;rw[Kq]at hd;have h0:=hd e (b he);have c:(e.wt&&Nat.beq (d5 e.o.op) 1)=true:=by simp_all
 rw[c,Kc,JM,Kq]at h0;rcases V.norm with⟨hk,M⟩| ⟨y,hk,hy,h3,M⟩
 ·grind
 ·have:=h0.2 y (b hy);have d:isW y=true:=l6 h3;rw[d,Kc,(F.at_ hy).2.2,show k-1+1=k by omega]at this;grind
set_option maxHeartbeats 1000000 in
theorem Fix.step {a:Act}{w:Be}(ad:L8 P call)(V:Inv B w0 P call nt ops nx0 l tm0 tmN S0 SN IN σ0 D L a w σ k S I)(hr:i∈Region.ready .any ops L)(Q:Exit->Act->Be->Prop)(r:Ai):wpOpIn (RF r) 0 P ops Q i (fun a' w'=>∃σ' k' S' I',Inv B w0 P call nt ops nx0 l tm0 tmN S0 SN IN σ0 D (L.setIfInBounds i true) a' w' σ' k' S' I') a w:=by
 obtain⟨co,o,ho,bc⟩:=mem_ready.1 hr;obtain⟨J,ao⟩:=nW co;obtain⟨e,he,G⟩:=F.ent ho;have cd:e.i=i:=(F.at_ he).2.2;have ay:i<l.length:=(JO.1 he).1;have aa:∀m,e.pre.testBit m=true->lst L m:=by
  intro m hm;obtain⟨ed,bh,hb,h⟩:=(F.p1 he).1 m hm;have cj:lst L ed.on:=bc ed (by rw[<-G];simpa using bh) hb;rcases h with h|h
  ·grind
  ·have hlt:=(F.p1 he).2 ed bh hb;have bm:ed.on<l.length:=by omega
   obtain⟨e',he'⟩:∃e',l[ed.on]? =some e':=⟨l[ed.on],by simp[bm]⟩
   exact V.down ed.on e' he' cj m (by rw[(F.at_ he').2.1];exact h)
 obtain⟨tm',S',I',hs,bz⟩:=(F.chain.get he).2;simp only[Lz]at hs bz;have au:∃tmk,L5 P call nt ops.toList nx0 tmN SN IN (l.take (i+1)).reverse (l.drop (i+1)) tmk S' I':=by
  refine⟨tm',?_⟩;have:e::(l.take i).reverse=(l.take (i+1)).reverse:=by rw[List.take_succ_eq_append_getElem ay,List.reverse_append];grind
  grind
 have ap:∀t,(mL ops.toList o).testBit t=true->VR σ ((e.tm.get t).getD undef) (a.tmps.getD t undef):=fun t ht=>F.seen V he aa ao (by rw[G];exact ht);have aq:∀x∈o.op.operands,∀v,a9 e.tm x=some v->VR σ v (a.eval x):=by
  intro x hx v hv;cases x with
  |tmp t=>simp only[a9,JL]at hv;subst hv;exact ap t (mM.2 (.inr (by simpa using hx)))|const c=>
   simp only[a9]at hv;cases hc:cst c with
   |false=>grind|true=>simp[hc]at hv;subst hv;exact U5 σ hc
  |global g=>simp[a9]at hv|func f=>simp only[a9,JL]at hv;subst hv;exact .func _ _ _ _ _ rfl (fun i x y h _=>by simp at h) rfl (fun i x y h _=>by simp at h)
 have bb:Region.wanted o (yielded ops a.tmps)=e.wt:=by rw[hs.wt,G];exact wa ops o fun g bu p d hg hp hd=>ap d (mM.2 (.inl ⟨g,bu,p,hg,hp,hd⟩))
 have bg:∀(j:Nat) e' t,l[j]? =some e'->j≠i->e'.o.dst=some t->o.dst≠some t:=fun j e' t hj Z ht=>by rw[<-G];exact(F.p2 he hj (Ne.symm Z)).1 t ht
 have build:∀(u:Aw) (σ':Sg) (w':Be) (k':Nat) (S2:Hp) (I2:Nat),Sg.le σ σ'->VR σ' e.r u->
   (∃tmk,L5 P call nt ops.toList nx0 tmN SN IN (l.take k').reverse (l.drop k') tmk S2 I2)->
   ((k'=0/\S2=S0)\/ ∃e,0<k'/\l[k'-1]? =some e/\d5 e.o.op=3/\S2=e.S2)->
   (∀(j:Nat) e,l[j]? =some e->d5 e.o.op=3->(lst (L.setIfInBounds i true) j↔j<k'))->
   HR B w0 σ' S2 w'->Sg.gr nx0 S2.nx σ0 σ'->nx0+ops.size<=S2.nx->
   (∀(j:Nat) e n,l[j]? =some e->e.nw=some n-> ¬lst (L.setIfInBounds i true) j->σ' (nx0+j)=none)->
   (∀(j:Nat) e n,l[j]? =some e->e.nw=some n->lst (L.setIfInBounds i true) j->I2.testBit j=false-> ∃b,Ext B σ' S2 w' (nx0+j) n b)->
   (∀(j j':Nat) e e' n n' b b',l[j]? =some e->l[j']? =some e'->e.nw=some n->e'.nw=some n'->j≠j'->lst (L.setIfInBounds i true) j->lst (L.setIfInBounds i true) j'->I2.testBit j=false->I2.testBit j'=false->
    Ext B σ' S2 w' (nx0+j) n b->Ext B σ' S2 w' (nx0+j') n' b'->b≠b')->
   Inv B w0 P call nt ops nx0 l tm0 tmN S0 SN IN σ0 D (L.setIfInBounds i true) (a.put o.dst u) w' σ' k' S2 I2:=by
  intro u σ' w' k' S2 I2 ai hv h1 h2 h3 h4 h5 h6 h7 h8 h9;have av:∀t,o.dst≠some t->(a.put o.dst u).tmps.getD t undef=a.tmps.getD t undef:=by
   intro t ht;cases hd:o.dst with
   |none=>rfl|some d=>have Z:d≠t:=fun h=>ht (by rw[hd,h]);simp[Act.put,LJ Z]
  have az:∀t,o.dst=some t->(a.put o.dst u).tmps.getD t undef=u:=by
   intro t ht;have hb:j4 nt o.dst=true:=by rw[<-G];exact hs.dst
   rw[ht]at hb⊢;have hlt:t<a.tmps.size:=by rw[V.tsz];exact JP hb
   simp[Act.put,hlt]
  refine⟨by simpa using V.size,?_,by rw[gt];exact V.defers,?_,?_,?_,h1,h2,h3,h4,h5,h6,h7,h8,h9⟩
  ·intro j e' hj A m hm;rw[t9 J]at A⊢;rcases A with A|rfl
   ·exact .inl (V.down j e' hj A m hm)
   ·have:e'=e:=Km (hj.symm.trans he);subst this;exact .inl (aa m hm)
  ·cases hd:o.dst<;>simp[Act.put,V.tsz]
  ·intro j e' t hj A ht;rw[t9 J]at A;by_cases E:j=i
   ·subst E;have:e'=e:=Km (hj.symm.trans he);subst this;rw[az t (by rw[<-G];exact ht)];exact hv
   ·rw[av t (bg j e' t hj E ht)];exact(V.tin j e' t hj (A.resolve_right E) ht).mono ai
  ·intro t bl;have ci:o.dst≠some t:=by rw[<-G];exact bl i e he ((t9 J).2 (.inr rfl))
   rw[av t ci];exact(V.tout t fun j e' hj A=>bl j e' hj ((t9 J).2 (.inl A))).mono ai
 have al:∀(u:Aw) (σ':Sg) (w':Be),d5 o.op≠3->(e.nw=none)->Sg.gr S.nx S.nx σ σ'->VR σ' e.r u->HR (rest B σ S w) w σ' S w'->
   ∃σ' k' S' I',Inv B w0 P call nt ops nx0 l tm0 tmN S0 SN IN σ0 D (L.setIfInBounds i true) (a.put o.dst u) w' σ' k' S' I':=by
  intro u σ' w' hk R O hv bi;refine⟨σ',k,S,I,build u σ' w' k S I O.le hv V.cut V.norm (fun j e' hj h3=>?_) (V.hr.back bi) (Mr V.gr O) V.room (fun j e' n hj hn A=>?_) (fun j e' n hj hn A hI=>?_) (fun j j' e1 e2 n1 n2 b1 b2 hj T M N Z X Y U W x1 x2=>?_)⟩
  ·rw[t9 J,<-V.wr j e' hj h3];constructor
   ·rintro (h|rfl)
    ·exact h
    ·have:e'=e:=Km (hj.symm.trans he);subst this;exact absurd h3 (by rw[G];exact hk)
   ·exact .inl
  ·have bk:¬lst L j:=fun h=>A ((t9 J).2 (.inl h));have cg:j<l.length:=(JO.1 hj).1;rw[O.low _ (by have:=V.room;have:=F.len;omega)];exact V.none j e' n hj hn bk
  ·have E:j≠i:=by rintro rfl;rw[Km (hj.symm.trans he),R]at hn;cases hn
   rw[t9 J]at A;obtain⟨b,hb⟩:=V.ext j e' n hj hn (A.resolve_right E) hI;exact⟨b,hb.step bi O.le⟩
  ·have E:j≠i:=by rintro rfl;rw[Km (hj.symm.trans he),R]at M;cases M
   have K:j'≠i:=by rintro rfl;rw[Km (T.symm.trans he),R]at N;cases N
   rw[t9 J]at X Y;obtain⟨c1,y1⟩:=V.ext j e1 n1 hj M (X.resolve_right E) U;obtain⟨c2,y2⟩:=V.ext j' e2 n2 T N (Y.resolve_right K) W;have ab:∀ {id:Nat} {n:Nw} {b c:Nat},Ext B σ S w id n c->Ext B σ' S w' id n b->b=c:=by intro id n b c hx hy;obtain⟨p,_,p1,p2,_⟩:=hx;obtain⟨q,_,q1,q2,_⟩:=hy;have:=(O.le _ _ p1).symm.trans q1;have:p=q:=Km this;rw[<-p2,<-q2,this]
   rw[ab y1 x1,ab y2 x2];exact V.apart j j' e1 e2 n1 n2 c1 c2 hj T M N Z (X.resolve_right E) (Y.resolve_right K) U W y1 y2
 have bt:d5 o.op=3->e.S=S/\e.I=I/\k<=i/\ ∀(j:Nat) e',l[j]? =some e'->d5 e'.o.op=3->(lst (L.setIfInBounds i true) j↔j<i+1):=by
  intro h3;have ac:d5 e.o.op=3:=by rw[G];exact h3
  have ar:k<=i:=by
   rcases Nat.lt_or_ge i k with h|h
   ·exact absurd ((V.wr i e he ac).2 h) ao
   ·exact h
  obtain⟨tmk,be⟩:=V.cut;have hlt:∀(j:Nat) e',l[j]? =some e'->d5 e'.o.op=3->j<i->lst L j:=fun j e' hj k3 hlt=>aa j ((F.p2 he hj (by omega)).2.2 ac k3 hlt);have bq:=pm be he ar (fun j e' hj h1 h2 k3=>by have:=(V.wr j e' hj k3).1 (hlt j e' hj k3 h2);omega);refine⟨bq.1,bq.2,ar,fun j e' hj k3=>?_⟩;rw[t9 J];constructor
  ·rintro (h|rfl)
   ·rcases Nat.lt_or_ge i j with h'|h'
    ·exact absurd (V.down j e' hj h i ((F.p2 hj he (by omega)).2.2 k3 ac h')) ao
    ·omega
   ·omega
  ·intro h;by_cases E:j=i
   ·exact .inr E
   ·exact .inl (hlt j e' hj k3 (by omega))
 unfold wpOpIn;simp only[ho];rw[bb];cases ak:e.wt with
 |false=>
  rw[Kg (by simp)];refine⟨fun _ _=>trivial,?_⟩;obtain⟨bn,R⟩:=hs.un ak;by_cases h3:d5 o.op=3
  ·obtain⟨e1,e2,ar,ba⟩:=bt h3;obtain⟨l1,l2⟩:=hs.low (.inl ak);have ac:d5 e.o.op=3:=by rw[G];exact h3
   refine⟨σ,i+1,S',I',build undef σ w (i+1) S' I' (Sg.le_refl σ) (by rw[bn];exact MD σ) au (.inr ⟨e,by omega,he,ac,hs.S2.symm⟩) ba
    (by rw[l1,e1];exact V.hr) (by rw[l1,e1];exact V.gr) (by rw[l1,e1];exact V.room) (fun j e' n hj hn A=>?_) (fun j e' n hj hn A hI=>?_) (fun j j' f1 f2 n1 n2 b1 b2 hj T M N Z X Y U W x1 x2=>?_)⟩
   ·exact V.none j e' n hj hn (fun h=>A ((t9 J).2 (.inl h)))
   ·have E:j≠i:=by rintro rfl;rw[Km (hj.symm.trans he),R]at hn;cases hn
    rw[t9 J]at A;rw[l1,e1];rw[l2,e2]at hI;exact V.ext j e' n hj hn (A.resolve_right E) hI
   ·have E:j≠i:=by rintro rfl;rw[Km (hj.symm.trans he),R]at M;cases M
    have K:j'≠i:=by rintro rfl;rw[Km (T.symm.trans he),R]at N;cases N
    rw[t9 J]at X Y;rw[l1,e1]at x1 x2;rw[l2,e2]at U W;exact V.apart j j' f1 f2 n1 n2 b1 b2 hj T M N Z (X.resolve_right E) (Y.resolve_right K) U W x1 x2
  ·exact al undef σ w h3 R (Mq _ σ) (by rw[bn];exact MD σ) V.hr.max
 |true=>
  rw[Ki rfl];by_cases h0:d5 o.op=0
  ·have hx:=hs.k0 ak (by rw[G];exact h0) S;rw[G]at hx;exact fq ad hx aq V.hr.max _ Q (fun σ' u w' O hv aj=>al u σ' w' (by omega) (hs.nw (by rw[G];omega)) O hv aj) r
  by_cases h1:d5 o.op=1
  ·have hx:=HM (call:=call) (by rw[G];exact h1) (F.read V he aa ao ak (by rw[G];exact h1));rw[G]at hx;exact fq ad hx aq V.hr.max _ Q (fun σ' u w' O hv aj=>al u σ' w' (by omega) (hs.nw (by rw[G];omega)) O hv aj) r
  by_cases h2:d5 o.op=2
  ·obtain⟨n,hx,cn,R⟩:=hs.k2 ak (by rw[G];exact h2);rw [G] at hx;obtain ⟨sm,ce,bj,ob,siz,z,bw,bp⟩:=qt (σ:=σ) hx aq;have ax : σ (nx0+i)=none:=V.none i e n he R ao;have hlt : nx0+i < S.nx:=by have:=V.room; have:=F.len; omega
   obtain⟨X,Y⟩:=V.hr.lay ax hlt n (p:=⟨w.heap.size,0,siz,z⟩) rfl (bw _);have ai:=Ms (σ:=σ) (i:=nx0+i) ⟨w.heap.size,0,siz,z⟩ ax;refine f8 (fun c hc=>by rw[hc]at h2;cases h2) ?_;unfold Oper.wp;rw[ce,Kp,bp w,Kl,Ku,LH];refine⟨_,k,S,I,build _ _ _ k S I ai ?_ V.cut V.norm (fun j e' hj h3=>?_) X ⟨Sg.le_trans V.gr.le ai,fun j hj=>(Mo _ _ _ (by omega)).trans (V.gr.low j hj),V.gr.nx⟩ V.room (fun j e' n' hj hn A=>?_) (fun j e' n' hj hn A hI=>?_)
    (fun j j' f1 f2 n1 n2 b1 b2 hj T M N Z ae ah U W x1 x2=>?_)⟩
   ·rw[cn,cd];exact Nw.val_VR bj _ _ _ _
   ·rw[t9 J,<-V.wr j e' hj h3];constructor
    ·rintro (h|rfl)
     ·exact h
     ·have:e'=e:=Km (hj.symm.trans he);subst this;rw[G]at h3;omega
    ·exact .inl
   ·have E:j≠i:=by rintro rfl;exact A ((t9 J).2 (.inr rfl))
    rw[Mo _ _ _ (by omega)];exact V.none j e' n' hj hn (fun h=>A ((t9 J).2 (.inl h)))
   ·by_cases E:j=i
    ·subst E;have:e'=e:=Km (hj.symm.trans he);subst this;have:n'=n:=Km (hn.symm.trans R);subst this;exact⟨_,Y⟩
    ·rw[t9 J]at A;obtain⟨b,hb⟩:=V.ext j e' n' hj hn (A.resolve_right E) hI;exact⟨b,hb.lay V.hr ax _ _⟩
   ·
    have old:∀(j:Nat) (f:Ent) (n':Nw) (b:Nat),l[j]? =some f->f.nw=some n'->j≠i->lst (L.setIfInBounds i true) j->I.testBit j=false->
      Ext B (σ.ext (nx0+i) ⟨w.heap.size,0,siz,z⟩) S (w.alloc ob) (nx0+j) n' b->Ext B σ S w (nx0+j) n' b/\b<w.heap.size:=by
     intro j f n' b hj hn E A hI hx;rw[t9 J]at A;obtain⟨c,hc⟩:=V.ext j f n' hj hn (A.resolve_right E) hI;have bx:=hc;obtain⟨p,C,p1,p2,p5,_⟩:=hc;obtain⟨q,_,q1,q2,_⟩:=hx;have:=(ai _ _ p1).symm.trans q1;have:p=q:=Km this;have bv:b=c:=by rw[<-p2,<-q2,this]
     subst bv;exact⟨bx,(Ka.1 p5).1⟩
    have new:∀(n':Nw) (b:Nat),Ext B (σ.ext (nx0+i) ⟨w.heap.size,0,siz,z⟩) S (w.alloc ob) (nx0+i) n' b->b=w.heap.size:=by intro n' b hx;obtain⟨q,_,q1,q2,_⟩:=hx;rw[Mp]at q1;rw[<-q2,<-Km q1]
    by_cases E:j=i
    ·subst E;have cf:j'≠j:=Ne.symm Z;have:=(old j' f2 n2 b2 T N cf ah W x2).2;rw[new n1 b1 x1];omega
    ·by_cases K:j'=i
     ·subst K;have:=(old j f1 n1 b1 hj M E ae U x1).2;rw[new n2 b2 x2];omega
     ·have o1:=(old j f1 n1 b1 hj M E ae U x1).1;have o2:=(old j' f2 n2 b2 T N K ah W x2).1;rw[t9 J]at ae ah;exact V.apart j j' f1 f2 n1 n2 b1 b2 hj T M N Z (ae.resolve_right E) (ah.resolve_right K) U W o1 o2
  ·
   have h3:d5 o.op=3:=by have:=im o.op;omega
   have ac:d5 e.o.op=3:=by rw[G];exact h3
   obtain⟨e1,e2,ar,ba⟩:=bt h3;obtain⟨hx,aw⟩:=hs.k3 ak (by omega);rw[G,e1,e2]at hx;rw[e2]at aw;obtain⟨T1,T2,T3⟩:=F.takes V (i:=i) (by omega) (ee e.pre I) (fun j hj hm=>by simp only[ee,JM,KH]at hm;exact⟨aa j hm.1,hm.2⟩);refine fq ad hx aq T1.max _ Q (fun σ' u w' O hv aj=>?_) r;rw[T2]at O;have keep:∀(j:Nat) (f:Ent) (n:Nw),l[j]? =some f->f.nw=some n->lst L j->I'.testBit j=false-> ∃b,Ext B σ S w (nx0+j) n b/\Ext B σ' S' w' (nx0+j) n b:=by intro j f n hj hn A hI;rw[aw,Nat.testBit_or,Bool.or_eq_false_iff]at hI;obtain⟨b,hb⟩:=V.ext j f n hj hn A hI.1;exact⟨b,hb,(T3 j f n b hj hn A hI.1 (fun _=>by simp[ee,hI.2]) hb).step aj O.le⟩
   have R:e.nw=none:=hs.nw (by omega);refine⟨σ',i+1,S',I',build u σ' w' (i+1) S' I' O.le hv au (.inr ⟨e,by omega,he,ac,hs.S2.symm⟩) ba (T1.back aj) (Mr V.gr O) (by have:=V.room;have:=O.nx;omega) (fun j e' n hj hn A=>?_) (fun j e' n hj hn A hI=>?_)
    (fun j j' f1 f2 n1 n2 b1 b2 hj T M N Z X Y U W x1 x2=>?_)⟩
   ·have cg:j<l.length:=(JO.1 hj).1;rw[O.low _ (by have:=V.room;have:=F.len;omega)];exact V.none j e' n hj hn (fun h=>A ((t9 J).2 (.inl h)))
   ·have E:j≠i:=by rintro rfl;rw[Km (hj.symm.trans he),R]at hn;cases hn
    rw[t9 J]at A;obtain⟨b,_,hb⟩:=keep j e' n hj hn (A.resolve_right E) hI;exact⟨b,hb⟩
   ·have E:j≠i:=by rintro rfl;rw[Km (hj.symm.trans he),R]at M;cases M
    have K:j'≠i:=by rintro rfl;rw[Km (T.symm.trans he),R]at N;cases N
    rw[t9 J]at X Y;obtain⟨c1,y1,z1⟩:=keep j f1 n1 hj M (X.resolve_right E) U;obtain⟨c2,y2,z2⟩:=keep j' f2 n2 T N (Y.resolve_right K) W;have ab:∀ {id:Nat} {n:Nw} {b c:Nat},Ext B σ' S' w' id n c->Ext B σ' S' w' id n b->b=c:=by intro id n b c hx hy;obtain⟨p,_,p1,p2,_⟩:=hx;obtain⟨q,_,q1,q2,_⟩:=hy;have:p=q:=Km (p1.symm.trans q1);rw[<-p2,<-q2,this]
    rw[ab z1 x1,ab z2 x2];rw[aw,Nat.testBit_or,Bool.or_eq_false_iff]at U W;exact V.apart j j' f1 f2 n1 n2 c1 c2 hj T M N Z (X.resolve_right E) (Y.resolve_right K) U.1 W.1 y1 y2
def Fix.all (d:L.size=ops.size)(hr:Region.ready .any ops L=[]):∀j,j<ops.size->lst L j:=by
 intro j;induction j using Nat.strongRecOn with
 |_ j f=>
  intro hj;by_cases hl:lst L j
  ·exact hl
  ·exfalso;have hm:j∈Region.ready .any ops L:=by
    refine mem_ready.2 ⟨?_,ops[j],by simp[hj],fun c a hb=>?_⟩
    ·unfold lst at hl;have:j<L.size:=by omega
     simp[this]at hl⊢;exact hl
    ·obtain⟨e,he,b⟩:=F.ent (o:=ops[j]) (j:=j) (by simp[hj]);have:=(F.p1 he).2 c (by rw[b];simpa using a) hb;exact f c.on this (by omega)
   rw[hr]at hm;cases hm
def Fix.ends {a:Act}{w:Be}(V:Inv B w0 P call nt ops nx0 l tm0 tmN S0 SN IN σ0 D L a w σ k S I)(f:∀j,j<ops.size->lst L j):dt nx0 B w0 σ0 nt .normal tmN (Xe.takes nx0 (ea IN) l.reverse SN) D .normal a w:=by
 obtain⟨tmk,p⟩:=V.cut;have b:∀ {j:Nat} {e:Ent},l[j]? =some e->lst L j:=fun h=>f _ (by have:=(JO.1 h).1;have:=F.len;omega);have d:=p.still (fun e hm=>by obtain⟨m,c⟩:=KQ.1 hm;rw[Kz]at c;intro h3;have:=(V.wr _ e c h3).1 (b c);omega);obtain⟨q,r,_⟩:=F.takes V (i:=l.length) (Kj _) (ea IN) (fun j hj hm=>by
  have:l[j]? =some l[j]:=by simp[hj]
  refine⟨b this,?_⟩;rw[<-d.2];simpa [ea]using hm)
 rw[List.take_length]at q r;rw[<-d.1]at q r;refine⟨rfl,V.defers,σ,by rw[r,d.1];exact V.gr,⟨V.tsz,fun t=>?_⟩,q⟩;by_cases hx:∃(j:Nat) (e:Ent),l[j]? =some e/\e.o.dst=some t
 ·obtain⟨j,e,hj,hd⟩:=hx;rw[F.chain.tm_some hj hd (fun m z hm v u=>(F.p2 hm hj v).1 t hd u)];exact V.tin j e t hj (b hj) hd
 ·rw[F.chain.tm_none (fun e he hd=>by obtain⟨m,hm⟩:=KQ.1 he;exact hx ⟨m,e,hm,hd⟩)];exact V.tout t (fun j e hj _ hd=>hx ⟨j,e,hj,hd⟩)
omit F
def kH (L:Array Bool):Nat:=(L.toList.filter (fun b=> !b)).length
def mq :∀(l:List Bool) (i:Nat),l[i]? =some false->((l.set i true).filter (fun b=> !b)).length+1=(l.filter (fun b=> !b)).length
 | [],i,h=>by simp at h|b::l,0,h=>by simp at h;subst h;simp|b::l,i+1,h=>by have:=mq l i (by simpa using h);cases b<;>simp[this]
def ip (h:L.getD i true=false):kH (L.setIfInBounds i true)+1=kH L:=by have hi:=(nW h).1;unfold kH;rw[Array.toList_setIfInBounds];refine mq L.toList i ?_;simp[hi]at h⊢;exact h
include F
def Fix.any (c:L8 P call)(r:Ai):∀(b:Nat) (L:Array Bool) (a:Act) (w:Be) (σ:Sg) (k:Nat) (S:Hp) (I:Nat),kH L=b->Inv B w0 P call nt ops nx0 l tm0 tmN S0 SN IN σ0 D L a w σ k S I->wpAnyIn (RF r) 0 P .any ops (dt nx0 B w0 σ0 nt .normal tmN (Xe.takes nx0 (ea IN) l.reverse SN) D) b L a w:=by
 intro b;induction b with
 |zero=>
  intro L a w σ k S I hf V;have hr:Region.ready .any ops L=[]:=by
   cases d:Region.ready .any ops L with
   |nil=>rfl|cons i r=>
    have:i∈Region.ready .any ops L:=by rw[d];simp
    have:=ip (mem_ready.1 this).1;omega
  exact⟨hr,F.ends V (F.all V.size hr)⟩
 |succ b p=>intro L a w σ k S I hf V;refine⟨fun hr=>F.ends V (F.all V.size hr),fun i hi=>?_⟩;have o:=ip (mem_ready.1 hi).1;refine wpOpIn_mono (fun a' w' h=>?_) (F.step c V hi _ r);obtain⟨σ',k',S',I',f⟩:=h;exact p _ a' w' σ' k' S' I' (by omega) f
end
variable {P:Ax}
def jL {call:c7}(f:L8 P call){nt:Nat}{ops:Am}{tm:Ao}{hp:Hp}{tm':Ao}{hp':Hp}(h:N3 P call nt ops.toList tm hp=some (tm',hp')){B:BS}{w0:Be}{σ:Sg}{a:Act}{w:Be}(ht:TR σ nt tm a.tmps)(hw:HR B w0 σ hp w)(r:Ai):wpAnyIn (RF r) 0 P .any ops (dt hp.nx B w0 σ nt .normal tm' hp' a.defers) ops.size (Array.replicate ops.size false) a {w with drawn:=w.drawn+1}:=by
 unfold N3 at h;cases q:stat ops.toList (C4 ops.toList [])with
 |false=>rw[q]at h;cases h
 |true=>
  rw[q,Kc]at h;split at h
  ·rename_i d u;cases o:dyn P ⟨hp.m,hp.nx+ops.toList.length⟩ d.es with
   |false=>rw[o]at h;cases h
   |true=>
    rw[o,Kc]at h;simp only[JL,JN]at h;obtain⟨rfl,rfl⟩:=h;obtain⟨l,h1,h2,h3⟩:=Cd _ 0 tm _ 0 [] d u rfl;rw[Lz]at h1;have F:Fix P call nt ops (C4 ops.toList []) hp.nx l tm d.tm ⟨hp.m,hp.nx+ops.toList.length⟩ d.S d.I:=⟨q,by rw[<-h1];exact o,h2,h3⟩
    rw[h1];have p:kH (Array.replicate ops.size false)=ops.size:=by simp[kH]
    refine F.any (B:=B) (w0:=w0) (σ0:=σ) f r ops.size _ a _ σ 0 ⟨hp.m,hp.nx+ops.toList.length⟩ 0 p ?_;have c:∀j,¬lst (Array.replicate ops.size false) j:=by intro j hl;unfold lst at hl;by_cases hj:j<ops.size<;>simp[hj]at hl
    have hr:HR B w0 σ ⟨hp.m,hp.nx+ops.toList.length⟩ w.drew:=
     ⟨hw.os,hw.tape,hw.output,hw.size,hw.old,hw.kept,fun i hi=>hw.fresh i (by simp at hi;omega),hw.live,hw.inj⟩
    refine⟨by simp,fun j e hj hl=>absurd hl (c j),rfl,ht.size,fun j e t hj hl=>absurd hl (c j),fun t _=>ht.at_ t,⟨tm,by simpa using h3⟩,.inl ⟨rfl,rfl⟩,fun j e hj _=>⟨fun h=>absurd h (c j),fun h=>by omega⟩,
     hr,⟨Sg.le_refl σ,fun _ _=>rfl,by simp⟩,by simp,fun j e n hj hn _=>?_,fun j e n hj hn hl=>absurd hl (c j),fun j j' e e' n n' b b' hj v hn z A hl=>absurd hl (c j)⟩
    exact hw.fresh _ (by omega)
  ·cases h
def FN (hm:P.follows .mixedOrders=true):dz P (N3 P):=
 fun _ a _ _ _ _ _ _ _ h _ _ _ _ _ ht hw r=>wpIn_region_any hm (jL a h ht hw r)
end Go.Xe
end PartXm15
noncomputable section PartXmD
namespace Go.Xe
open Go.RowKit
def wc (ops:Am)(l:Ah):Prop:=
 ∀l1 i l2,l=l1++i::l2-> ∃o,ops[i]? =some o/\ ∀e∈o.after,Region.binds .any e=true->e.on∈l1
structure Q2 (ops:Am)(l:Ah):Prop where
 nodup:l.Nodup
 mem:∀i,i∈l↔i<ops.size
 behind:wc ops l
variable {P:Ax}{ops:Am}{Q:Exit->Act->Be->Prop}{l:Ah}
theorem iL {r:Ai}(hl:Q2 ops l):∀(d c:Ah) (L:Array Bool) (b:Nat) (a:Act) (w:Be),l=c++d->L.size=ops.size->(∀j,j<ops.size->(L.getD j false=true↔j∈c))->wpAnyIn (RF r) 0 P .any ops Q b L a w->wpOpsIn (RF r) 0 P ops Q d a w:=by
 intro d;induction d with
 |nil=>
  intro c L b a w he hs A h;rw[Lz]at he;subst he;have hr:Region.ready .any ops L=[]:=by
   cases E:Region.ready .any ops L with
   |nil=>rfl|cons i K=>
    have hi:i∈Region.ready .any ops L:=by grind
    obtain⟨G,o,u,_⟩:=mem_ready.1 hi;have hlt:i<ops.size:=(Ka.1 u).1;have h1:=(A i hlt).2 ((hl.mem i).2 hlt);grind
  cases b with
  |zero=>exact h.2|succ b=>exact h.1 hr
 |cons i d J=>
  intro c L b a w he hs A h;have p:i∈l:=by grind
  have hlt:i<ops.size:=(hl.mem i).1 p;obtain⟨o,u,f⟩:=hl.behind c i d he;have C:i∉c:=by intro hc;have:=hl.nodup;grind
  have hi:i∈Region.ready .any ops L:=by
   refine mem_ready.2 ⟨?_,o,u,fun e q hb=>?_⟩
   ·grind
   ·have v:=f e q hb;have z:e.on<ops.size:=(hl.mem _).1 (by rw[he];simp[v]);grind
  cases b with
  |zero=>rw[h.1]at hi;cases hi
  |succ b=>
   rw[wpOpsIn_cons];refine wpOpIn_mono (fun a' w' hh=>?_) (h.2 i hi);refine J (c++ [i]) (L.setIfInBounds i true) b a' w' (by rw[he];simp) (by simpa using hs) (fun j hj=>?_) hh;have t:i<L.size:=by omega
   have:=t9 (L:=L) (i:=i) (j:=j) t;unfold lst at this;grind
theorem BC {L:Array Bool}(b:L.size=ops.size)(a:∀(i:Nat) o,ops[i]? =some o-> ∀e∈o.after,Region.binds .any e=true->e.on<i)(hr:Region.ready .any ops L=[]):∀j,j<ops.size->L.getD j false=true:=by
 intro j;induction j using Nat.strongRecOn with
 |_ j d=>
  intro hj;cases c:L.getD j false with
  |true=>rfl|false=>
   exfalso;have hm:j∈Region.ready .any ops L:=by
    refine mem_ready.2 ⟨?_,ops[j],by simp[hj],fun e he hb=>?_⟩
    ·grind
    ·grind
   grind
theorem AW (c:∀(i:Nat) o,ops[i]? =some o-> ∀e∈o.after,Region.binds .any e=true->e.on<i):∀(b t:Nat) (L:Array Bool) (a:Ah),L.size=ops.size->(∀j,j<ops.size->(L.getD j false=true↔j∈a))->a.Nodup->(∀i∈a,i<ops.size)->wc ops a->kH L<=b->Q2 ops (Region.linearise.go .any ops b t L a.reverse):=by
 intro b;have done:∀(L:Array Bool) (a:Ah),L.size=ops.size->(∀j,j<ops.size->(L.getD j false=true↔j∈a))->a.Nodup->(∀i∈a,i<ops.size)->wc ops a->Region.ready .any ops L=[]->Q2 ops a:=by intro L a hs d hn hm hb hr;exact⟨hn,fun i=>⟨hm i,fun hi=>(d i hi).1 (BC hs c hr i hi)⟩,hb⟩
 induction b with
 |zero=>
  intro t L a hs d hn hm hb C;simp only[Region.linearise.go,List.reverse_reverse];refine done L a hs d hn hm hb ?_;cases G:Region.ready .any ops L with
  |nil=>rfl|cons i K=>
   have hi:i∈Region.ready .any ops L:=by grind
   have:=ip (mem_ready.1 hi).1;omega
 |succ b J=>
  intro t L a hs d hn hm hb C;simp only[Region.linearise.go];change Q2 ops (match(Region.ready .any ops L)[t % (Region.ready .any ops L).length]? with
   |some i=>Region.linearise.go .any ops b (t/ (Region.ready .any ops L).length) (L.setIfInBounds i true) (i::a.reverse)|none=>a.reverse.reverse)
  cases hi:(Region.ready .any ops L)[t % (Region.ready .any ops L).length]? with
  |none=>
   have r:Region.ready .any ops L=[]:=by
    cases hr:Region.ready .any ops L with
    |nil=>rfl| cons x xs =>rw[hr]at hi;have hlt:t % (x::xs).length<(x::xs).length:=Nat.mod_lt _ (by simp);grind
   grind
  |some i=>
   have h:=JV hi;obtain⟨f,o,p,q⟩:=mem_ready.1 h;have hlt:i<ops.size:=(Ka.1 p).1;have u:=nW f;have A:i∉a:=fun hc=>u.2 ((d i hlt).2 hc);have E:=ip f;have v:i::a.reverse=(a++ [i]).reverse:=by simp
   simp only[];rw[v];refine J _ (L.setIfInBounds i true) (a++ [i]) (by simpa using hs) (fun j hj=>?_) ?_ ?_ ?_ (by omega)
   ·have:=t9 (L:=L) (i:=i) (j:=j) u.1;unfold lst at this;grind
   ·grind
   ·grind
   ·intro k1 j k2 he;rcases List.eq_nil_or_concat k2 with rfl| ⟨k3,z,rfl⟩
    ·have h1:a=k1/\i=j:=by simp_all
     grind
    ·have h1:a=k1++j::k3:=by simp_all
     exact hb k1 j k3 h1
def lm (a:∀(i:Nat) o,ops[i]? =some o-> ∀e∈o.after,Region.binds .any e=true->e.on<i)(t:Nat):Q2 ops (Region.schedule true ops t):=by
 simp only[Region.schedule,Bool.true_or,LB,Region.linearise];refine AW a ops.size t (Array.replicate ops.size false) [] (by simp) (fun j hj=>?_) (by simp) (fun i hi=>by cases hi) (fun k1 i k2 he=>by simp at he) ?_
 ·simp[hj]
 ·simp[kH]
def d8 (ops:Am)(x y:Nat)(g:Ground):Am:=ops.modify y fun o=> {o with after:=o.after.push ⟨x,g⟩}
variable {x y:Nat}{g:Ground}
theorem P4 {i:Nat}:(d8 ops x y g)[i]? =if y=i then(ops[i]?).map fun o=> {o with after:=o.after.push ⟨x,g⟩}else ops[i]? :=by unfold d8;grind
theorem Q2.edge {b d:Ah}(h:Q2 ops (b++y::d))(hx:x∈b):Q2 (d8 ops x y g) (b++y::d):=by
 refine⟨h.nodup,fun i=>by rw[h.mem i];simp[d8],fun k1 i k2 he=>?_⟩;obtain⟨o,q,hd⟩:=h.behind k1 i k2 he;rw[P4];by_cases hi:y=i
 ·subst hi;rw[Ki rfl,q];refine⟨_,rfl,fun e a hb=>?_⟩;rcases Array.mem_push.1 a with a|rfl
  ·grind
  ·have r:y∉b:=fun hc=>by have:=h.nodup;grind
   have t:y∉k1:=fun hc=>by have:=h.nodup;grind
   have u:b=k1:=by
    rcases List.append_eq_append_iff.1 he with⟨c,f,p⟩| ⟨c,f,p⟩
    ·cases c with
     |nil=>grind|cons c0 c=>grind
    ·cases c with
     |nil=>grind|cons c0 c=>grind
   grind
 ·grind
theorem Q2.first (h:Q2 ops l)(hx:x<ops.size)(hy:y<ops.size)(d:x≠y):(∃a c,l=a++y::c/\x∈a)\/(∃a c,l=a++x::c/\y∈a):=by
 obtain⟨a,c,e⟩:=List.append_of_mem ((h.mem y).2 hy);have b:=(h.mem x).2 hx;rw[e]at b;rcases Kx.1 b with h1|h1
 ·grind
 ·rcases Ky.1 h1 with h1|h1
  ·grind
  ·obtain⟨o,m2,f⟩:=List.append_of_mem h1;grind
structure Cq (ops ops':Am)(ρ:Nat->Nat):Prop where
 get:∀(i:Nat) o,ops[i]? =some o-> ∃o',ops'[ρ i]? =some o'/\o'.op=o.op/\o'.dst=o.dst/\o'.type=o.type/\o'.guard=o.guard.map (fun g=>(ρ g.1,g.2))
 yielded:∀tmps (i:Nat) o g,ops[i]? =some o->o.guard=some g->yielded ops' tmps (ρ g.1)=yielded ops tmps g.1
variable {n:Nat}
def xM {F:Fence}{o o':Oper}{a:Act}{w:Be}{K:Act->Be->Prop}(h1:o'.op=o.op)(h2:o'.dst=o.dst)(h3:o'.type=o.type)(h:o'.wpIn F n P a w K Q):o.wpIn F n P a w K Q:=by obtain⟨d,op,ty,ps,af,g⟩:=o;obtain⟨q,c,p,f,b,r⟩:=o';simp only at h1 h2 h3;subst h1 h2 h3;exact h
theorem N1 {F:Fence}{n:Nat}{P:Ax}{ops ops':Am}{ρ:Nat->Nat}(ha:Cq ops ops' ρ){Q:Exit->Act->Be->Prop}:∀(l:Ah) {a:Act} {w:Be},(∀i∈l,i<ops.size)->wpOpsIn F n P ops' Q (l.map ρ) a w->wpOpsIn F n P ops Q l a w
 | [],_,_,_,h=>h|i::l,a,w,hl,h=>by
  have hlt:=hl i (by simp);have d:ops[i]? =some ops[i]:=by simp[hlt]
  obtain⟨o',h1,h2,h3,h4,h5⟩:=ha.get i _ d;have c:∀j∈l,j<ops.size:=fun j hj=>hl j (by simp[hj]);have b:Region.wanted o' (yielded ops' a.tmps)=Region.wanted ops[i] (yielded ops a.tmps):=by
   unfold Region.wanted;rw[h5];cases f:ops[i].guard with
   |none=>rfl|some g=>simp only[KG];rw[ha.yielded a.tmps i _ g d f]
  simp only[KM,wpOpsIn,h1]at h;simp only[wpOpsIn,d];rw[b]at h;by_cases hw:Region.wanted ops[i] (yielded ops a.tmps)=true
  ·rw[Ki hw]at h⊢;exact Oper.wpIn_mono (fun a' w' hh=>N1 ha l c hh) (xM h2 h3 h4 h)
  ·rw[Kg hw]at h⊢;refine⟨?_,?_⟩
   ·have:=h.1;unfold Oper.about at this⊢;grind
   ·have:=h.2;rw[h3]at this;exact N1 ha l c this
theorem dA (ops:Am)(x y:Nat)(g:Ground):Cq ops (d8 ops x y g) id:=by
 refine⟨fun i o b=>?_,fun tmps i o a _ _=>?_⟩
 ·show∃o',(d8 ops x y g)[i]? =some o'/\_;rw[P4];by_cases hi:y=i
  ·simp_all
  ·simp_all
 ·show yielded (d8 ops x y g) tmps a.1=yielded ops tmps a.1;unfold yielded;rw[P4];grind
def S9 (x n j:Nat):Nat:=if j<x then j else if j=x then n-1 else if j<n then j-1 else j
def piL (x n k:Nat):Nat:=if k<x then k else if k+1=n then x else k+1
variable {j:Nat}
def iq (hj:j<n):S9 x n j<n:=by unfold S9;split<;>(try split)<;>(try split)<;>omega
variable {k:Nat}
def wZ (hx:x<n)(hk:k<n):piL x n k<n:=by unfold piL;split<;>(try split)<;>omega
theorem bC (hj:j<n):piL x n (S9 x n j)=j:=by unfold piL S9;grind
theorem uJ (hk:k<n):S9 x n (piL x n k)=k:=by unfold piL S9;grind
theorem Ho (hx:x<n)(hj:n<=j):S9 x n j=j:=by unfold S9;grind
def jv (x n:Nat)(o:Oper):Oper:= {o with after:=o.after.map (fun e=> {e with on:=S9 x n e.on}),guard:=o.guard.map (fun g=>(S9 x n g.1,g.2))}
def moveLast (ops:Am)(x:Nat):Am:=
 match ops[x]? with
 |some o0=>((List.range ops.size).map fun k=>jv x ops.size ((ops[piL x ops.size k]?).getD o0)).toArray|none=>ops
theorem kz (hx:x<ops.size):moveLast ops x=((List.range ops.size).map fun k=>jv x ops.size ((ops[piL x ops.size k]?).getD ops[x])).toArray:=by unfold moveLast;grind
def aB (hx:x<ops.size):(moveLast ops x).size=ops.size:=by rw[kz hx];simp
theorem V6 (hx:x<ops.size)(hk:k<ops.size):(moveLast ops x)[k]? =(ops[piL x ops.size k]?).map (jv x ops.size):=by rw[kz hx];have:=wZ hx hk;grind
theorem lX (hx:x<ops.size):Cq ops (moveLast ops x) (S9 x ops.size):=by
 refine⟨fun i o a=>?_,fun tmps i o g _ _=>?_⟩
 ·have hi:i<ops.size:=(Ka.1 a).1;rw[V6 hx (iq hi),bC hi,a];exact⟨_,rfl,rfl,rfl,rfl,rfl⟩
 ·unfold yielded;by_cases hj:g.1<ops.size
  ·rw[V6 hx (iq hj),bC hj];cases ops[g.1]? <;>rfl
  ·rw[Ho hx (by omega)];have b:(moveLast ops x)[g.1]? =none:=Array.getElem?_eq_none (by rw[aB hx];omega);grind
theorem Q2.moveLast {ops:Am}{l:Ah}(h:Q2 ops l){x:Nat}(hx:x<ops.size):Q2 (moveLast ops x) (l.map (S9 x ops.size)):=by
 have hlt:∀i∈l,i<ops.size:=fun i hi=>(h.mem i).1 hi;refine⟨?_,fun k=>?_,fun k1 k k2 he=>?_⟩
 ·unfold List.Nodup;rw[List.pairwise_map];refine List.Pairwise.imp_of_mem (fun{a b} ha hb d e=>d ?_) h.nodup;rw[<-bC (hlt a ha),<-bC (hlt b hb),e]
 ·rw[aB hx,Lt];constructor
  ·rintro ⟨j,hj,rfl⟩;exact iq (hlt j hj)
  ·intro hk;exact⟨piL x ops.size k,(h.mem _).2 (wZ hx hk),uJ hk⟩
 ·obtain⟨u,C,p,z,q⟩:=List.map_eq_append_iff.1 he;obtain⟨i,v,r,t,A⟩:=List.map_eq_cons_iff.1 q;obtain⟨o,f,hd⟩:=h.behind u i v (by rw[p,r]);have hi:i<ops.size:=(Ka.1 f).1;subst t;rw[V6 hx (iq hi),bC hi,f];refine⟨_,rfl,fun e c hb=>?_⟩;simp only[jv]at c;obtain⟨e0,h0,rfl⟩:=Array.mem_map.1 c;have:=hd e0 h0 hb;grind
def rL :List (Aw×Aw)->List (Aw×Aw)->Bool
 | [],[]=>true|x::xs,y::ys=>veq 100 x.1 y.1&&veq 100 x.2 y.2&&rL xs ys|_,_=>false
def pS :∀ {xs ys:List (Aw×Aw)},rL xs ys=true->xs=ys
 | [],[],_=>rfl|x::xs,y::ys,h=>by simp only[rL,JM]at h;rw[pS h.2,Prod.ext (jH 100 _ _ h.1.1) (jH 100 _ _ h.1.2)]| [],_::_,h=>by cases h
 |_::_,[],h=>by cases h
def kg (b c:Blk):Bool:=
 match b,c with
 | .cells c n e z,.cells c' n' e' z'=>Nat.beq n n'&&Nat.beq e e'&&Nat.beq z z'&&(match d6 c 0 n,d6 c' 0 n with|some v,some v'=>dB (veq 100) v v'|_,_=>false)| .map es r,.map es' r'=>(r==r')&&rL es es'| .dfr,.dfr=>true|_,_=>false
theorem CT {σ:Sg}{p:Pl}{b c:Blk}{o:Obj}(h:kg b c=true)(hc:BR σ p c o):BR σ p b o:=by
 unfold kg at h;split at h
 ·rename_i r n e z t n' e' J;simp only[JM]at h;obtain⟨⟨⟨h1,h2⟩,h3⟩,h4⟩:=h;have h1:=JQ h1;have h2:=JQ h2;have h3:=JQ h3;subst h1 h2 h3;split at h4
  ·rename_i v v' d a;have:=bL (jH 100) h4;subst this;obtain⟨C,k1,k2,k3,f,q⟩:=hc;refine⟨C,k1,k2,k3,f,fun j hj=>?_⟩;obtain⟨x,u,q1,q2,G⟩:=q j hj;have A:=(g9 d).2 j hj;have E:=(g9 a).2 j hj;grind
  ·cases h4
 ·simp only[JM,beq_iff_eq]at h;obtain⟨rfl,h⟩:=h;rw[pS h];exact hc
 ·exact hc
 ·cases h
def th {b c:Blk}(h:kg b c=true):aQ b=false/\aQ c=false:=by unfold kg at h;split at h<;>first|exact⟨rfl,rfl⟩|cases h
def wL (m1 m2:T Blk):Nat->Nat->T Blk->T Blk
 |_,0,acc=>acc|i,n+1,acc=>match m1.get i,m2.get i with
  |some b,some c=>bif kg b c then(acc.set i (some b)).force fun acc'=>wL m1 m2 (i+1) n acc' else wL m1 m2 (i+1) n acc
  |_,_=>wL m1 m2 (i+1) n acc
theorem ug {a m2:T Blk}:∀(n i:Nat) (acc:T Blk) (j:Nat) (b:Blk),(wL a m2 i n acc).get j=some b->acc.get j=some b\/(a.get j=some b/\ ∃c,m2.get j=some c/\kg b c=true):=by
 intro n;induction n with
 |zero=>intro i acc j b h;exact .inl h
 |succ n f=>
  intro i acc j b h;simp only[wL]at h;split at h
  ·rename_i b1 d h1 h2;cases hb:kg b1 d with
   |false=>grind|true=>
    rw[hb,Kc,Mt]at h;rcases f _ _ _ _ h with h3|h3
    ·rw[Mw]at h3;grind
    ·grind
  ·grind
def uf (t1 t2:Ao):Nat->Nat->Bc (Af)
 |_,0=>some []
 | k, n + 1 => bif veq 100 ((t1.get k).getD undef) ((t2.get k).getD undef) then
   match uf t1 t2 (k+1) n with
   |some vs=>some ((t1.get k).getD undef::vs)|none=>none
  else none
theorem Bf {t1 t2:Ao}:∀ {n k:Nat} {vs:Af},uf t1 t2 k n=some vs->vs.length=n/\ ∀j,j<n->vs[j]? =some ((t1.get (k+j)).getD undef)/\(t1.get (k+j)).getD undef=(t2.get (k+j)).getD undef:=by
 intro n;induction n with
 |zero=>intro k vs h;simp only[uf,JL]at h;subst h;exact⟨rfl,fun j hj=>absurd hj (Nat.not_lt_zero j)⟩
 |succ n b=>
  intro k vs h;simp only[uf]at h;cases hb:veq 100 ((t1.get k).getD undef) ((t2.get k).getD undef)with
  |false=>grind|true=>
   rw[hb,Kc]at h;split at h
   ·rename_i c a;cases h;obtain⟨h1,h2⟩:=b a;refine⟨by simp[h1],fun j hj=>?_⟩;cases j with
    |zero=>exact⟨rfl,jH 100 _ _ hb⟩|succ j=>grind
   ·cases h
def lH (nt:Nat)(a b:Ao×Hp):Bc (Ao×Hp):=
 bif Nat.beq a.2.nx b.2.nx then match uf a.1 b.1 0 nt with
  |some vs=>some (fill .e 0 vs,⟨wL a.2.m b.2.m 0 a.2.nx .e,a.2.nx⟩)|none=>none
 else none
section
variable {P :Ax}{B:BS}{w0:Be}
theorem hY {nt n:Nat}{a b:Ao×Hp}{tm:Ao}{hp:Hp}(h:lH nt a b=some (tm,hp)){σ:Sg}{e:Exit}{D:List Deferred}{e':Exit}{c:Act}{w:Be}:(dt n B w0 σ nt e a.1 a.2 D e' c w->dt n B w0 σ nt e tm hp D e' c w)/\(dt n B w0 σ nt e b.1 b.2 D e' c w->dt n B w0 σ nt e tm hp D e' c w):=by
 unfold lH at h;cases hn:Nat.beq a.2.nx b.2.nx with
 |false=>grind|true=>
  rw[hn,Kc]at h;have hn:=JQ hn;split at h
  ·rename_i vs r;cases h;obtain⟨G,A⟩:=Bf r;have z:∀ {σ':Sg} {t:Ao} {tmps:Al},(∀j,j<nt->vs[j]? =some ((t.get j).getD undef))->TR σ' nt t tmps->TR σ' nt (fill .e 0 vs) tmps:=by
    intro σ' t tmps ht h;refine⟨h.size,fun k=>?_⟩;rw[f6];by_cases hk:k<nt
    ·rw[Ki (by omega),Ls,ht k hk];exact h.at_ k
    ·rw[Kg (by omega),Mu];have:tmps.getD k undef=undef:=by simp[Array.getD,h.size,hk]
     rw[this];exact MD σ'
   constructor
   ·rintro ⟨h1,h2,σ',h3,h4,h5⟩;refine⟨h1,h2,σ',h3,z (fun j hj=>by have:=(A j hj).1;rw[Ks]at this;exact this) h4,h5.less fun i b d=>?_⟩;rcases ug _ _ _ _ _ d with h| ⟨h,_⟩
    ·rw[Mu]at h;cases h
    ·exact h
   ·rintro ⟨h1,h2,σ',h3,h4,h5⟩;refine⟨h1,h2,σ',by show Sg.gr n a.2.nx σ σ';rw[hn];exact h3,z (fun j hj=>by have:=A j hj;rw[Ks]at this;rw[<-this.2];exact this.1) h4,?_⟩;have sub:∀i x,(wL a.2.m b.2.m 0 a.2.nx .e).get i=some x-> ∃y,b.2.m.get i=some y/\kg x y=true:=by
     intro i x d;rcases ug _ _ _ _ _ d with h| ⟨_,h⟩
     ·rw[Mu]at h;cases h
     ·exact h
    refine⟨h5.os,h5.tape,h5.output,h5.size,h5.old,h5.kept,fun i hi=>h5.fresh i (by rw[<-hn];exact hi),fun i x d=>?_,fun i j x y p q hi hj f hp hq=>?_⟩
    ·obtain⟨y,hy,hb⟩:=sub i x d;obtain⟨p,o,k1,k2,k3,C⟩:=h5.live i y hy;exact⟨p,o,k1,k2.like (th hb).2 (th hb).1,k3,CT hb C⟩
    ·obtain⟨x',u,_⟩:=sub i x hi;obtain⟨E,v,_⟩:=sub j y hj;exact h5.inj i j x' E p q u v f hp hq
  ·cases h
end
def mb :Nat->An->Bool
 |_,[]=>true|i,o::os=>o.after.toList.all (fun e=> !(Region.binds .any e)||Nat.blt e.on i)&&mb (i+1) os
theorem pb :∀ {os:An} {i:Nat},mb i os=true-> ∀(j:Nat) o,os[j]? =some o-> ∀e∈o.after,Region.binds .any e=true->e.on<i+j
 | [],_,_,j,o,h=>by simp at h|x::os,i,h,j,o,a=>by
  simp only[mb,JM,Kq]at h;cases j with
  |zero=>simp at a;subst a;intro e he hb;have:=h.1 e (by simpa using he);simp_all
  |succ j=>intro e he hb;have:=pb h.2 j o (by simpa using a) e he hb;omega
def jj (all:An):Bc (Nat×Nat):=
 (wG all (C4 all [])).findSome? fun x=>(wG all (C4 all [])).findSome? fun y=>bif s2 x y then none else some (y.i,x.i)
def AR (p:Oper×Nat):Op×Bc Tmp×Nat:=(p.1.op,p.1.dst,p.2)
def dg (e:Ent):Nat×Bc Nw:=(e.i,e.nw)
def gd :List (Oper×Nat)->Nat
 | []=>0|p::l=>(bif Nat.beq (d5 p.1.op) 3 then p.2 else 0)|||gd l
def cM {nx0:Nat}{m:Nat->Bool}:∀ {a b:List Ent} {S:Hp},a.map dg=b.map dg->takes nx0 m a S=takes nx0 m b S
 | [],[],_,_=>rfl| [],_::_,_,h=>by simp at h|_::_,[],_,h=>by simp at h|e::a,f::b,S,h=>by
  simp only[KM,Le,dg,JN]at h;unfold takes;rw[h.1.2,h.1.1];cases f.nw with
  |none=>exact cM h.2|some n=>
   cases m f.i with
   |true=>exact cM h.2|false=>exact cM h.2
def nP {nx0:Nat}{m:Nat->Bool}:∀ {es:List Ent} {S:Hp},(∀e∈es,e.nw≠none->m e.i=false)->takes nx0 m es S=S
 | [],_,_=>rfl|e::es,S,h=>by
  unfold takes;have a:=nP (nx0:=nx0) (m:=m) (es:=es) (S:=S) fun f hf=>h f (KT _ hf);cases hn:e.nw with
  |none=>exact a|some n=>rw[h e (by simp) (by rw[hn];simp)];exact a
section
variable {P :Ax}{call:c7}{nt nx0:Nat}
variable (P call nt nx0) in
def xg1 (op:Op)(dst:Bc Tmp)(pre i:Nat)(tm:Ao)(S:Hp)(I:Nat)(es:List Ent):Bc (Aw×Hp×Nat×Bc Nw):=
 bif j4 nt dst then match d5 op with
  |0=>(xop P call tm S op).map fun r=>(r.1,S,I,none)
  |1=>(xrd P tm S op).map fun v=>(v,S,I,none)
  |2=>(xnw P tm op).map fun n=>(n.val (nx0+i),S,I,some n)
  |_=>(xop P call tm (takes nx0 (ee pre I) es S) op).map fun r=>(r.1,r.2,I|||pre,none)
 else none
variable {I i pre:Nat}{S:Hp}{es:List Ent}
def eB {all:An}{o:Oper}{rest:List (Oper×Nat)}{tm:Ao}(a:o.guard=none):xgo P call nt all nx0 ((o,pre)::rest) i tm S I es=(xg1 P call nt nx0 o.op o.dst pre i tm S I es).bind fun r=>xgo P call nt all nx0 rest (i+1) (j0 tm o.dst r.1) r.2.1 r.2.2.1 (⟨i,o,pre,tm,S,r.2.1,I,true,r.1,r.2.2.2⟩::es):=by
 have hw:e9 all tm o=true:=by unfold e9;rw[a]
 conv=>lhs;unfold xgo
 unfold xg1;rw[hw];cases j4 nt o.dst with
 |false=>rfl|true=>
  simp only[Kc];generalize d5 o.op=k
  match k with
  |0=>simp only;cases xop P call tm S o.op<;>rfl
  |1=>simp only;cases xrd P tm S o.op<;>rfl
  |2=>simp only;cases xnw P tm o.op<;>rfl
  |k+3=>simp only;cases xop P call tm (takes nx0 (ee pre I) es S) o.op<;>rfl
variable {dst:Bc Tmp}
def FO {op:Op}{tm:Ao}{a:List Ent}(h:es.map dg=a.map dg):xg1 P call nt nx0 op dst pre i tm S I es=xg1 P call nt nx0 op dst pre i tm S I a:=by unfold xg1;rw[cM h]
def xg1_I {op:Op}{tm:Ao}{r:Aw×Hp×Nat×Bc Nw}(h:xg1 P call nt nx0 op dst pre i tm S I es=some r):r.2.2.1=I||| (bif Nat.beq (d5 op) 3 then pre else 0)/\(r.2.2.2≠none->d5 op=2):=by
 unfold xg1 at h;cases hd:j4 nt dst with
 |false=>rw[hd]at h;cases h
 |true=>
  rw[hd,Kc]at h;have hk:=im op;generalize d5 op=k at h hk⊢
  match k with
  |0=>simp only[Lu]at h;obtain⟨_,_,rfl⟩:=h;simp[show Nat.beq 0 3=false from rfl]
  |1=>simp only[Lu]at h;obtain⟨_,_,rfl⟩:=h;simp[show Nat.beq 1 3=false from rfl]
  |2=>simp only[Lu]at h;obtain⟨_,_,rfl⟩:=h;simp[show Nat.beq 2 3=false from rfl]
  |3=>simp only[Lu]at h;obtain⟨_,_,rfl⟩:=h;simp[show Nat.beq 3 3=true from rfl]
  |k+4=>omega
def FR {o q:An}{E G:List (Oper×Nat)}{t u:Out}{T0:Nat}:∀(d z:List (Oper×Nat)) (i:Nat) (tm:Ao) (S:Hp) (I:Nat) (b f:List Ent),d.map AR=z.map AR->b.map dg=f.map dg->(∀p∈d,p.1.guard=none)->(∀p∈z,p.1.guard=none)->I|||gd d=T0->(∀e∈b,e.nw≠none->T0.testBit e.i=true)->(∀(k:Nat) p,d[k]? =some p->d5 p.1.op=2->T0.testBit (i+k)=true)->xgo P call nt o nx0 (d++E) i tm S I b=some t->xgo P call nt q nx0 (z++G) i tm S I f=some u-> ∃tm' S' a c,a.map dg=c.map dg/\(∀e∈a,e.nw≠none->T0.testBit e.i=true)/\xgo P call nt o nx0 E (i+d.length) tm' S' T0 a=some t/\xgo P call nt q nx0 G (i+d.length) tm' S' T0 c=some u
 | [],[],i,tm,S,I,b,f,_,he,_,_,v,hc,_,h1,h2=>by
  have v:I=T0:=by rw[<-v];simp[gd]
  subst v;exact⟨tm,S,b,f,he,hc,h1,h2⟩
 | [],_::_,_,_,_,_,_,_,h,_,_,_,_,_,_,_,_=>by simp at h|_::_,[],_,_,_,_,_,_,h,_,_,_,_,_,_,_,_=>by simp at h| (C,p1)::d,(U,p2)::z,i,tm,S,I,b,f,hl,he,J,K,v,hc,hk,h1,h2=>by
  simp only[KM,Le,AR,JN]at hl;obtain⟨⟨M,N,rfl⟩,hl⟩:=hl;rw[KX,eB (show C.guard=none from J _ List.mem_cons_self)]at h1;rw[KX,eB (show U.guard=none from K _ List.mem_cons_self),<-M,<-N,<-FO he]at h2;cases hx:xg1 P call nt nx0 C.op C.dst p1 i tm S I b with
  |none=>rw[hx]at h1;cases h1
  |some r=>
   rw[hx]at h1 h2;simp only[Option.bind_some]at h1 h2;obtain⟨O,R⟩:=xg1_I hx;have A:r.2.2.1|||gd d=T0:=by rw[O,<-v,gd,Nat.or_assoc]
   obtain⟨tm',S',a,c,a1,a2,a3,a4⟩:=FR d z (i+1) _ _ _ _ _ hl (by simp only[KM,he];rfl) (fun p hp=>J p (KT _ hp)) (fun p hp=>K p (KT _ hp)) A
    (fun e he' hn=>by
     rcases Ky.1 he' with rfl|he'
     ·exact hk 0 _ rfl (R hn)
     ·exact hc e he' hn) (fun k p hp h=>by have:=hk (k+1) p (by simpa using hp) h;rwa[show i+1+k=i+(k+1) by omega]) h1 h2
   exact⟨tm',S',a,c,a1,a2,by rw[KE,show i+(d.length+1)=i+1+d.length by omega];exact a3,by rw[KE,show i+(d.length+1)=i+1+d.length by omega];exact a4⟩
def FQ {q u:An}{N O:List (Oper×Nat)}{z A:Out}{S1 S2:Hp}{K M:Nat}:∀(c G:List (Oper×Nat)) (i j:Nat) (tm:Ao) (f o:List Ent),(c.map fun p=>(p.1.op,p.1.dst))=(G.map fun p=>(p.1.op,p.1.dst))->(∀p∈c,p.1.guard=none)->(∀p∈G,p.1.guard=none)->(∀p∈c,d5 p.1.op=0)->xgo P call nt q nx0 (c++N) i tm S1 K f=some z->xgo P call nt u nx0 (G++O) j tm S2 M o=some A-> ∃tm' a b,(∀e∈a,e.nw≠none->e∈f)/\(∀e∈b,e.nw≠none->e∈o)/\(∀t,(∀p∈c,p.1.dst≠some t)->tm'.get t=tm.get t)/\xgo P call nt q nx0 N (i+c.length) tm' S1 K a=some z/\xgo P call nt u nx0 O (j+c.length) tm' S2 M b=some A
 | [],[],i,j,tm,f,o,_,_,_,_,h1,h2=>⟨tm,f,o,fun e h _=>h,fun e h _=>h,fun _ _=>rfl,h1,h2⟩
 | [],_::_,_,_,_,_,_,h,_,_,_,_,_=>by simp at h|_::_,[],_,_,_,_,_,h,_,_,_,_,_=>by simp at h| (C,p1)::c,(X,p2)::G,i,j,tm,f,o,hl,R,U,hk,h1,h2=>by
  simp only[KM,Le,JN]at hl;obtain⟨⟨V,W⟩,hl⟩:=hl;have E:d5 C.op=0:=hk _ List.mem_cons_self;rw[KX,eB (show C.guard=none from R _ List.mem_cons_self)]at h1;rw[KX,eB (show X.guard=none from U _ List.mem_cons_self),<-V,<-W]at h2;obtain⟨r,hr⟩:=oB (P:=P) (call:=call) (tm:=tm) E;have st:∀pre i S I es,xg1 P call nt nx0 C.op C.dst pre i tm S I es=bif j4 nt C.dst then r.map fun v=>(v,S,I,none)else none:=by intro pre i S I es;unfold xg1;rw[E,hr];cases r<;>rfl
  rw[st]at h1 h2;cases hd:j4 nt C.dst with
  |false=>rw[hd]at h1;cases h1
  |true=>
   rw[hd,Kc]at h1 h2;cases r with
   |none=>cases h1
   |some v=>
    simp only[KG,Option.bind_some]at h1 h2;obtain⟨tm',a,b,a1,a2,a3,a4,a5⟩:=FQ c G (i+1) (j+1) _ _ _ hl (fun p hp=>R p (KT _ hp)) (fun p hp=>U p (KT _ hp)) (fun p hp=>hk p (KT _ hp)) h1 h2;refine⟨tm',a,b,fun e he hn=>?_,fun e he hn=>?_,fun t ht=>?_,by rw[KE,show i+(c.length+1)=i+1+c.length by omega];exact a4,by rw[KE,show j+(c.length+1)=j+1+c.length by omega];exact a5⟩
    ·rcases Ky.1 (a1 e he hn)with rfl|h
     ·exact absurd rfl hn
     ·exact h
    ·rcases Ky.1 (a2 e he hn)with rfl|h
     ·exact absurd rfl hn
     ·exact h
    ·rw[a3 t fun p hp=>ht p (KT _ hp)];have h0:=ht _ List.mem_cons_self;unfold j0;cases J:C.dst with
     |none=>rfl|some d=>simp only;rw[Mw,Kg (fun e=>h0 (by rw[J,e]))]
def qz {t:Ay}{o:Nat}{x:Aw}{hp hp':Hp}(h:A8 P hp t (.pointer (some ⟨i,o,none⟩)) x=some hp'):∃b,(∀k,hp'.m.get k=if k=i then some b else hp.m.get k)/\hp'.nx=hp.nx/\ ∀hq:Hp,hq.m.get i=hp.m.get i-> ∀a,A8 P hq t (.pointer (some ⟨i,o,none⟩)) x=some a->(∀k,a.m.get k=if k=i then some b else hq.m.get k)/\a.nx=hq.nx:=by
 unfold A8 at h;simp only at h;split at h
 ·rename_i c n e z q;split at h
  ·rename_i p f;cases hb:Nat.beq x.cells.toList.length p.size&&Nat.ble (o+p.size) n&&x.cells.toList.all Value.oneCell' with
   |false=>rw[hb]at h;cases h
   |true=>
    rw[hb,Kc,JL]at h;refine⟨.cells (fill c o x.cells.toList) n e z,fun k=>?_,by rw[<-h,E7],fun hq d a hx=>?_⟩
    ·rw[<-h,E7];exact Mw _ _ _ _
    ·unfold A8 at hx;simp only[d,q,f]at hx;rw[hb,Kc,JL]at hx;refine⟨fun k=>?_,by rw[<-hx,E7]⟩;rw[<-hx,E7];exact Mw _ _ _ _
  ·cases h
 ·cases h
def FP {M N:An}{A1 A2 B1 B2:List (Oper×Nat)}{X1 X2 Y1 Y2:Oper×Nat}{tm:Ao}{b c:Out}{t t':Ay}{a v a' v':Ba}{j o o':Nat}(Y:∀p∈A1++X1::(B1++ [Y1]),p.1.guard=none)(Z:∀p∈A2++(B2++ [Y2,X2]),p.1.guard=none)(hA:A1.map AR=A2.map AR)(hB:(B1.map fun p=>(p.1.op,p.1.dst))=(B2.map fun p=>(p.1.op,p.1.dst)))(al:∀p∈B1,d5 p.1.op=0)(hc:∀(k:Nat) p,A1[k]? =some p->d5 p.1.op=2->(gd A1).testBit k=true)(ao:X1.1.op= .store t a v)(ap:X2.1.op= .store t a v)(aq:Y1.1.op= .store t' a' v')(ar:Y2.1.op= .store t' a' v')(ab:X1.1.dst=none)(ac:X2.1.dst=none)(ad:Y1.1.dst=none)(ae:Y2.1.dst=none)(ha:∀k,a= .tmp k-> ∀p∈B1,p.1.dst≠some k)(hv:∀k,v= .tmp k-> ∀p∈B1,p.1.dst≠some k)(h1:xgo P call nt M nx0 (A1++X1::(B1++ [Y1])) 0 tm S 0 []=some b)(h2:xgo P call nt N nx0 (A2++(B2++ [Y2,X2])) 0 tm S 0 []=some c)(p1:a9 b.tm a=some (.pointer (some ⟨i,o,none⟩)))(p2:a9 b.tm a'=some (.pointer (some ⟨j,o',none⟩)))(C:i≠j):c.tm=b.tm/\(takes nx0 (ea c.I) c.es c.S).nx=(takes nx0 (ea b.I) b.es b.S).nx/\ ∀k,(takes nx0 (ea c.I) c.es c.S).m.get k=(takes nx0 (ea b.I) b.es b.S).m.get k:=by
 obtain⟨tm1,S1,u,z,a1,a2,a3,a4⟩:=FR A1 A2 0 tm S 0 [] [] hA rfl (fun p hp=>Y p (by simp[hp])) (fun p hp=>Z p (by simp[hp])) (Nat.zero_or _) (fun e he=>by simp at he) (fun k p hp h=>by rw[Ks];exact hc k p hp h) h1 h2;have G:∀ {es:List Ent},(∀e∈es,e.nw≠none->e∈u)-> ∀ {m:Nat->Bool} {S:Hp},(∀n,(gd A1).testBit n=true->m n=false)->takes nx0 m es S=S:=by intro es he m S hm;exact nP fun e h hn=>hm _ (a2 e (he e h hn) hn)
 have aa:∀e∈z,e.nw≠none->(gd A1).testBit e.i=true:=by
  intro e he hn;have hm:dg e∈u.map dg:=by rw[a1];exact List.mem_map_of_mem he
  obtain⟨f,hf,A⟩:=Lt.1 hm;simp only[dg,JN]at A;rw[<-A.1];exact a2 f hf (by rw[A.2];exact hn)
 have J:∀ {es:List Ent},(∀e∈es,e.nw≠none->e∈z)-> ∀ {m:Nat->Bool} {S:Hp},(∀n,(gd A1).testBit n=true->m n=false)->takes nx0 m es S=S:=by intro es he m S hm;exact nP fun e h hn=>hm _ (aa e (he e h hn) hn)
 have d:∀ {pre I:Nat},(∀n,(gd A1).testBit n=true->I.testBit n=true)-> ∀n,(gd A1).testBit n=true->ee pre I n=false:=fun h n hn=>by unfold ee;rw[h n hn];simp
 have q:∀ {all:An} {X:Oper×Nat} {R:List (Oper×Nat)} {n:Nat} {tm:Ao} {S:Hp} {I:Nat} {es:List Ent} {t:Ay} {a v:Ba} {E:Out},X.1.guard=none->X.1.op= .store t a v->X.1.dst=none->(∀pre,takes nx0 (ee pre I) es S=S)->
   xgo P call nt all nx0 (X::R) n tm S I es=some E-> ∃pv K S',a9 tm a=some pv/\a9 tm v=some K/\A8 P S t pv K=some S'/\ ∃e,e.nw=none/\xgo P call nt all nx0 R (n+1) tm S' (I|||X.2) (e::es)=some E:=by
  intro all X R n tm S I es t a v E hg ho hd ht hx;obtain⟨X,pre⟩:=X;rw[eB hg,show X.dst=none from hd,show X.op=_ from ho]at hx;unfold xg1 at hx;rw[show d5 (.store t a v)=3 from rfl,ht,show j4 nt none=true from rfl,Kc]at hx;simp only[b9,f7]at hx;cases hp:a9 tm a with
  |none=>rw[hp]at hx;cases hx
  |some pv=>
   cases hu:a9 tm v with
   |none=>rw[hp,hu]at hx;cases hx
   |some K=>
    rw[hp,hu]at hx;simp only at hx;cases hs:A8 P S t pv K with
    |none=>rw[hs]at hx;cases hx
    |some S'=>rw[hs]at hx;exact⟨pv,K,S',rfl,rfl,hs,_,rfl,hx⟩
 have ah:=Y X1 (by simp);have aj:=Y Y1 (by simp);have ai:=Z X2 (by simp);have ak:=Z Y2 (by simp);obtain⟨pv,K,S2,b1,b2,b3,e1,n1,b4⟩:=q ah ao ab (fun pre=>G (fun e h _=>h) (d fun n h=>h)) a3;obtain⟨au,V,W,c1,c2,c3,c4,c5⟩:=FQ B1 B2 _ _ tm1 _ _ hB (fun p hp=>Y p (by simp[hp])) (fun p hp=>Z p (by simp[hp])) al b4 a4;have O:∀e∈V,e.nw≠none->e∈u:=fun e he hn=>by
  rcases Ky.1 (c1 e he hn)with rfl|h
  ·exact absurd n1 hn
  ·exact h
 obtain⟨pw,yv,S3,d1,d2,d3,e2,n2,d4⟩:=q aj aq ad (fun pre=>G O (d fun n h=>by rw[Nat.testBit_or,h];rfl)) c4;simp only[xgo,JL]at d4;subst d4;obtain⟨aw,ay,S4,f1,f2,f3,e3,n3,f4⟩:=q ak ar ae (fun pre=>J c2 (d fun n h=>h)) c5;have U:∀e∈e3::W,e.nw≠none->e∈z:=fun e he hn=>by
  rcases Ky.1 he with rfl|h
  ·exact absurd n3 hn
  ·exact c2 e h hn
 obtain⟨av,ax,S5,k1,k2,k3,e4,n4,k4⟩:=q ai ap ac (fun pre=>J U (d fun n h=>by rw[Nat.testBit_or,h];rfl)) f4;simp only[xgo,JL]at k4;subst k4;have ev:∀ {x:Ba},(∀k,x= .tmp k-> ∀p∈B1,p.1.dst≠some k)->a9 au x=a9 tm1 x:=by
  intro x hx;cases x with
  |tmp k=>simp only[a9];rw[c3 k (hx k rfl)]|_=>rfl
 rw[ev ha]at k1 p1;rw[ev hv]at k2;rw[b1]at k1 p1;cases k1;cases p1;rw[b2]at k2;cases k2;rw[d1]at f1 p2;cases f1;cases p2;rw[d2]at f2;cases f2;obtain⟨bx,x1,x2,x3⟩:=qz b3;obtain⟨by_,y1,y2,y3⟩:=qz d3;obtain⟨z1,z2⟩:=y3 S1 (by rw[x1,Kg (Ne.symm C)]) _ f3;obtain⟨w1,w2⟩:=x3 S4 (by rw[z1,Kg C]) _ k3;have r:∀(I:Nat),(∀n,(gd A1).testBit n=true->I.testBit n=true)-> ∀n,(gd A1).testBit n=true->ea I n=false:=fun I h n hn=>by unfold ea;rw[h n hn];rfl
 rw[G (es:=e2::V) (fun e he hn=>by
   rcases Ky.1 he with rfl|h
   ·exact absurd n2 hn
   ·exact O e h hn) (r _ fun n h=>by simp only[Nat.testBit_or,h,Bool.true_or]),
  J (es:=e4::e3::W) (fun e he hn=>by
   rcases Ky.1 he with rfl|h
   ·exact absurd n4 hn
   ·exact U e h hn) (r _ fun n h=>by simp only[Nat.testBit_or,h,Bool.true_or])]
 refine⟨rfl,by rw[w2,z2,y2,x2],fun k=>?_⟩;rw[w1,z1,y1,x1];by_cases hi:k=i
 ·rw[Ki hi,Kg (fun e=>C (hi.symm.trans e)),Ki hi]
 ·rw[Kg hi,Kg hi]
end
def Fu {α:Type}{l:List α}(h:x<y)(hl:l.length=y+1):l=l.take x++l[x]::((l.drop (x+1)).take (y-x-1)++ [l[y]]):=by
 have a:(l.drop (x+1)).take (y-x-1)++ [l[y]]=l.drop (x+1):=by
  have: [l[y]]=(l.drop (x+1)).drop (y-x-1):=by rw[List.drop_drop,show x+1+(y-x-1)=y by omega,List.drop_eq_getElem_cons (by omega),List.drop_eq_nil_of_le (by omega)]
  rw[this,LD]
 rw[a,<-List.drop_eq_getElem_cons (by omega),LD]
def Fv {α:Type}{l:List α}(h:x<y)(hl:l.length=y+1):l=l.take x++((l.drop x).take (y-x-1)++ [l[y-1],l[y]]):=by
 have a:(l.drop x).take (y-x-1)++ [l[y-1],l[y]]=l.drop x:=by
  have: [l[y-1],l[y]]=(l.drop x).drop (y-x-1):=by
   rw[List.drop_drop,show x+(y-x-1)=y-1 by omega,List.drop_eq_getElem_cons (by omega)];have:l.drop (y-1+1)=[l[y]]:=by rw[show y-1+1=y by omega,List.drop_eq_getElem_cons (by omega),List.drop_eq_nil_of_le (by omega)]
   rw[this]
  rw[this,LD]
 rw[a,LD]
def Et :Ah->Ah->Bool
 | [],[]=>true|a::l,b::m=>Nat.beq a b&&Et l m|_,_=>false
def zq :∀ {l m:Ah},Et l m=true->l=m
 | [],[],_=>rfl| [],_::_,h=>by cases h
 |_::_,[],h=>by cases h
 |a::l,b::m,h=>by simp only[Et,JM,KA]at h;rw[h.1,zq h.2]
def si :Op->Bc (Ba×Ba)
 | .store _ a v=>some (a,v)|_=>none
def qd {o:Op}{a v:Ba}(h:si o=some (a,v)):∃t,o= .store t a v:=by
 unfold si at h;split at h
 ·cases h;exact⟨_,rfl⟩
 ·cases h
def jp (B:An):Ba->Bool
 | .tmp t=>B.all fun o=> !(yG o t)
 |_=>true
def pQ {B:An}{a:Ba}(h:jp B a=true)(k:Nat)(ha:a= .tmp k)(o:Oper)(b:o∈B):o.dst≠some k:=by subst ha;unfold jp at h;have:=Kq.1 h o b;unfold yG at this;intro e;rw[e]at this;simp at this
def AT (u v:Ag):Bool:=match u,v with
 |some (.pointer (some ⟨i,_,none⟩)),some (.pointer (some ⟨j,_,none⟩))=> !(Nat.beq i j)|_,_=>false
def GB {u v:Ag}(h:AT u v=true):∃i o j o',u=some (.pointer (some ⟨i,o,none⟩))/\v=some (.pointer (some ⟨j,o',none⟩))/\i≠j:=by
 unfold AT at h;split at h
 ·rename_i i o j o';exact⟨i,o,j,o',rfl,rfl,fun e=>by rw[e]at h;simp at h⟩
 ·cases h
def jq (all1 all2:An)(x y:Nat):Bc (Ba×Ba):=
 bif Nat.beq all1.length (y+1)&&Nat.blt x y&&(all1.all fun o=>o.guard.isNone)&&Nat.beq (C4 all1 []).length (y+1)&&Nat.beq (C4 all2 []).length (y+1)&&Et ((C4 all1 []).take x) ((C4 all2 []).take x)&&
   (((all1.drop (x+1)).take (y-x-1)).all fun o=>Nat.beq (d5 o.op) 0)&&((all1.take x).zipIdx.all fun p=> !(Nat.beq (d5 p.1.op) 2)|| (gd ((all1.zip (C4 all1 [])).take x)).testBit p.2)then
  match all1[x]?,all1[y]? with
  |some ox,some oy=>match si ox.op,si oy.op with
   |some (a,v),some (a',_)=>bif ox.dst.isNone&&oy.dst.isNone&&jp ((all1.drop (x+1)).take (y-x-1)) a&&jp ((all1.drop (x+1)).take (y-x-1)) v then some (a,a')else none|_,_=>none
  |_,_=>none
 else none
section
variable {P :Ax}{call:c7}{nt nx0:Nat}
def qq {all:An}{tm:Ao}{hp:Hp}{r:Ao×Hp}(h:N3 P call nt all tm hp=some r):∃a,xgo P call nt all hp.nx (all.zip (C4 all [])) 0 tm ⟨hp.m,hp.nx+all.length⟩ 0 []=some a/\r=(a.tm,takes hp.nx (ea a.I) a.es a.S):=by
 unfold N3 at h;cases hs:stat all (C4 all [])with
 |false=>rw[hs]at h;cases h
 |true=>
  rw[hs,Kc]at h;split at h
  ·rename_i a b;cases hd:dyn P ⟨hp.m,hp.nx+all.length⟩ a.es with
   |false=>rw[hd]at h;cases h
   |true=>rw[hd,Kc,JL]at h;exact⟨a,b,h.symm⟩
  ·cases h
set_option maxHeartbeats 1000000 in
def BA {ops:Am}{x y:Nat}{g C:Ground}{a a':Ba}{tm:Ao}{hp:Hp}{N r2:Ao×Hp}(hp':jq (d8 ops x y g).toList (moveLast (d8 ops y x C) x).toList x y=some (a,a'))(h1:N3 P call nt (d8 ops x y g).toList tm hp=some N)(h2:N3 P call nt (moveLast (d8 ops y x C) x).toList tm hp=some r2)(hd:AT (a9 N.1 a) (a9 N.1 a')=true):r2.1=N.1/\r2.2.nx=N.2.nx/\ ∀k,r2.2.m.get k=N.2.m.get k:=by
 obtain⟨aj,h1,rfl⟩:=qq h1;obtain⟨ak,h2,rfl⟩:=qq h2;have Z:(d8 ops x y g).toList.length=ops.size:=by simp[d8]
 have A:(d8 ops y x C).size=ops.size:=by simp[d8]
 unfold jq at hp';generalize hb:(Nat.beq (d8 ops x y g).toList.length (y+1)&&Nat.blt x y&&((d8 ops x y g).toList.all fun o=>o.guard.isNone)&&Nat.beq (C4 (d8 ops x y g).toList []).length (y+1)&&Nat.beq (C4 (moveLast (d8 ops y x C) x).toList []).length (y+1)&&Et ((C4 (d8 ops x y g).toList []).take x) ((C4 (moveLast (d8 ops y x C) x).toList []).take x)&&
   ((((d8 ops x y g).toList.drop (x+1)).take (y-x-1)).all fun o=>Nat.beq (d5 o.op) 0)&&(((d8 ops x y g).toList.take x).zipIdx.all fun p=> !(Nat.beq (d5 p.1.op) 2)|| (gd (((d8 ops x y g).toList.zip (C4 (d8 ops x y g).toList [])).take x)).testBit p.2))=b at hp'
 cases b with
 |false=>cases hp'
 |true=>
 rw[Kc]at hp';simp only[JM,KA]at hb;obtain⟨⟨⟨⟨⟨⟨⟨b1,b2⟩,b3⟩,b4⟩,b5⟩,b6⟩,b7⟩,b8⟩:=hb;have G:x<y:=JP b2;have b6:=zq b6;have hn:ops.size=y+1:=by rw[<-Z];exact b1
 have aa:x<(d8 ops y x C).size:=by omega
 have K:(moveLast (d8 ops y x C) x).toList.length=y+1:=by rw[Array.length_toList,aB aa,A,hn]
 have ac:∀k o,(d8 ops x y g).toList[k]? =some o-> ∃o2,(moveLast (d8 ops y x C) x).toList[S9 x (y+1) k]? =some o2/\o2.op=o.op/\o2.dst=o.dst/\(o.guard=none->o2.guard=none):=by
  intro k o E;have hk:k<y+1:=by rw[<-b1];exact(JO.1 E).1
  have hl:S9 x (y+1) k<(d8 ops y x C).size:=by rw[A,hn];exact iq hk
  rw[Array.getElem?_toList,P4]at E;rw[Array.getElem?_toList,V6 aa hl,A,hn,bC hk,P4];cases R:ops[k]? with
  |none=>rw[R]at E;split at E<;>cases E
  |some o0=>
   rw[R]at E;have q:o.op=o0.op/\o.dst=o0.dst/\o.guard=o0.guard:=by split at E<;>(simp only[KG,JL]at E;subst E;exact⟨rfl,rfl,rfl⟩)
   split
   ·exact⟨_,rfl,q.1.symm,q.2.1.symm,fun h=>by rw[q.2.2]at h;simp[jv,h]⟩
   ·exact⟨_,rfl,q.1.symm,q.2.1.symm,fun h=>by rw[q.2.2]at h;simp[jv,h]⟩
 generalize (d8 ops x y g).toList=c at*;generalize (moveLast (d8 ops y x C) x).toList=f at*;generalize al:C4 c []=d at*;generalize ao:C4 f []=r at*;have l1:(c.zip d).length=y+1:=by rw[List.length_zip,b1,b4,Nat.min_self]
 have l2:(f.zip r).length=y+1:=by rw[List.length_zip,K,b5,Nat.min_self]
 have J:∀k (h:k<y+1),(c.zip d)[k]=(c[k],d[k]):=fun k h=>List.getElem_zip;have z2:∀k (h:k<y+1),(f.zip r)[k]=(f[k],r[k]):=fun k h=>List.getElem_zip;have u:∀k (h:k<y+1) (h':S9 x (y+1) k<y+1),f[S9 x (y+1) k].op=c[k].op/\f[S9 x (y+1) k].dst=c[k].dst/\(c[k].guard=none->f[S9 x (y+1) k].guard=none):=by intro k h h';obtain⟨o2,k1,k2⟩:=ac k c[k] (by simp);rw[JX (by omega),JL]at k1;rw[k1];exact k2
 have O:∀k (h:k<y+1),c[k].guard=none:=fun k h=>by have:=Kq.1 b3 c[k] (List.getElem_mem _);simpa using this
 have ad:∀k (h:k<y+1),f[k].guard=none:=by intro k h;have e:=uJ (x:=x) h;have hp:=wZ (x:=x) (n:=y+1) (by omega) h;have:=(u (piL x (y+1) k) hp (by rw[e];exact h)).2.2 (O _ hp);simpa only[e]using this
 rw[Fu G l1]at h1;rw[Fv G l2]at h2;split at hp'
 rotate_left
 ·cases hp'
 rename_i ox oy U V;split at hp'
 rotate_left
 ·cases hp'
 rename_i a0 v ab v' ai W;cases hc:ox.dst.isNone&&oy.dst.isNone&&jp ((c.drop (x+1)).take (y-x-1)) a0&&jp ((c.drop (x+1)).take (y-x-1)) v with
 |false=>rw[hc]at hp';cases hp'
 |true=>
 rw[hc,Kc,JL,JN]at hp';obtain⟨rfl,rfl⟩:=hp';simp only[JM,Option.isNone_iff_eq_none]at hc;obtain⟨⟨⟨c1,c2⟩,c3⟩,c4⟩:=hc;obtain⟨t,X⟩:=qd ai;obtain⟨t',Y⟩:=qd W;have ex:c[x]=ox:=by rw[JX (by omega)]at U;exact Km U
 have ey:c[y]=oy:=by rw[JX (by omega)]at V;exact Km V
 have rx:S9 x (y+1) x=y:=by unfold S9;rw[Kg (by omega),Ki rfl];omega
 have ry:S9 x (y+1) y=y-1:=by unfold S9;rw[Kg (by omega),Kg (by omega),Ki (by omega)]
 have qx:=u x (by omega) (by omega);have qy:=u y (by omega) (by omega);simp only[rx]at qx;simp only[ry]at qy;obtain⟨i,o,j,o',d1,d2,d3⟩:=GB hd;have M:∀p∈((c.zip d).drop (x+1)).take (y-x-1),p.1∈(c.drop (x+1)).take (y-x-1):=by
  intro p hp;obtain⟨k,hk⟩:=KQ.1 hp;rw[Kt]at hk;split at hk
  ·rename_i hlt;rw[Kz,JX (by omega),J _ (by omega),JL]at hk;subst hk;refine KQ.2 ⟨k,?_⟩;rw[Kt,Ki hlt,Kz,JX (by omega)]
  ·cases hk
 refine FP (P:=P) (call:=call) (nt:=nt) (nx0:=hp.nx) (X1:=(c.zip d)[x]) (X2:=(f.zip r)[y]) (Y1:=(c.zip d)[y]) (Y2:=(f.zip r)[y-1]) (t:=t) (t':=t') (a:=a0) (v:=v) (a':=ab) (v':=v') ?_ ?_ ?_ ?_ ?_ ?_ ?_ ?_ ?_ ?_ ?_ ?_ ?_ ?_ ?_ ?_ h1 (by rw[K,<-b1]at h2;exact h2) d1 d2 d3
 ·rw[<-Fu G l1];intro p hp;obtain⟨k,hk,rfl⟩:=List.mem_iff_getElem.1 hp;rw[J k (by omega)];exact O k (by omega)
 ·rw[<-Fv G l2];intro p hp;obtain⟨k,hk,rfl⟩:=List.mem_iff_getElem.1 hp;rw[z2 k (by omega)];exact ad k (by omega)
 ·refine List.ext_getElem (by simp[l1,l2]) fun k hk ae=>?_;have z:k<x:=by simp at hk;omega
  simp only[List.getElem_map,List.getElem_take];rw[J k (by omega),z2 k (by omega)];have rk:S9 x (y+1) k=k:=by unfold S9;rw[Ki z]
  have q:=u k (by omega) (by omega);simp only[rk]at q;have ah:d[k]=r[k]:=by
   have:(d.take x)[k]? =(r.take x)[k]? :=by rw[b6]
   rw[Kt,Kt,Ki z,Ki z,JX (by omega),JX (by omega)]at this;exact Km this
  unfold AR;rw[q.1,q.2.1,ah]
 ·refine List.ext_getElem (by simp[l1,l2];omega) fun k hk ae=>?_;have z:k<y-x-1:=by simp at hk;omega
  simp only[List.getElem_map,List.getElem_take,List.getElem_drop];rw[J _ (by omega),z2 _ (by omega)];have rk:S9 x (y+1) (x+1+k)=x+k:=by unfold S9;rw[Kg (by omega),Kg (by omega),Ki (by omega)];omega
  have q:=u (x+1+k) (by omega) (by omega);simp only[rk]at q;rw[q.1,q.2.1]
 ·intro p hp;exact JQ (Kq.1 b7 _ (M p hp))
 ·intro k p hp hk;rw[Kt]at hp;split at hp
  ·rename_i z;rw[JX (by omega),J k (by omega),JL]at hp;rw[<-hp]at hk;have:=Kq.1 b8 (c[k],k) (by refine KQ.2 ⟨k,?_⟩;rw[List.getElem?_zipIdx,Kt,Ki z,JX (by omega)];simp);simp only[Lm,KH]at this;simp only at hk;rcases this with h|h
   ·rw[hk]at h;cases h
   ·exact h
  ·cases hp
 ·exact(congrArg (fun p=>p.1.op) (J x (by omega))).trans ((congrArg Oper.op ex).trans X)
 ·exact(congrArg (fun p=>p.1.op) (z2 y (by omega))).trans (qx.1.trans ((congrArg Oper.op ex).trans X))
 ·exact(congrArg (fun p=>p.1.op) (J y (by omega))).trans ((congrArg Oper.op ey).trans Y)
 ·exact(congrArg (fun p=>p.1.op) (z2 (y-1) (by omega))).trans (qy.1.trans ((congrArg Oper.op ey).trans Y))
 ·exact(congrArg (fun p=>p.1.dst) (J x (by omega))).trans ((congrArg Oper.dst ex).trans c1)
 ·exact(congrArg (fun p=>p.1.dst) (z2 y (by omega))).trans (qx.2.1.trans ((congrArg Oper.dst ex).trans c1))
 ·exact(congrArg (fun p=>p.1.dst) (J y (by omega))).trans ((congrArg Oper.dst ey).trans c2)
 ·exact(congrArg (fun p=>p.1.dst) (z2 (y-1) (by omega))).trans (qy.2.1.trans ((congrArg Oper.dst ey).trans c2))
 ·exact fun k hk p hp=>pQ c3 k hk _ (M p hp)
 ·exact fun k hk p hp=>pQ c4 k hk _ (M p hp)
end
def lC (nt:Nat)(s:Bc (Ba×Ba))(r1 r2:Ao×Hp):Bc (Ao×Hp):=match s with
 |some (a,a')=>bif AT (a9 r1.1 a) (a9 r1.1 a')then some r1 else lH nt r1 r2|none=>lH nt r1 r2
def gX {B:BS}{w0:Be}{call:c7}{nt:Nat}{o:Ground}{tm0 tm:Ao}{hp0 hp:Hp}{d f:Ao×Hp}(h1:N3 P call nt (d8 ops x y g).toList tm0 hp0=some d)(h2:N3 P call nt (moveLast (d8 ops y x o) x).toList tm0 hp0=some f)(h:lC nt (jq (d8 ops x y g).toList (moveLast (d8 ops y x o) x).toList x y) d f=some (tm,hp)){σ:Sg}{e:Exit}{D:List Deferred}{e':Exit}{c:Act}{w:Be}:(dt n B w0 σ nt e d.1 d.2 D e' c w->dt n B w0 σ nt e tm hp D e' c w)/\(dt n B w0 σ nt e f.1 f.2 D e' c w->dt n B w0 σ nt e tm hp D e' c w):=by
 unfold lC at h;split at h
 ·rename_i a a' hs;cases hd:AT (a9 d.1 a) (a9 d.1 a')with
  |false=>rw[hd]at h;exact hY h|true=>rw[hd,Kc,JL]at h;subst h;obtain⟨q1,q2,t⟩:=BA hs h1 h2 hd;replace q1:f.1=tm:=q1;replace q2:f.2.nx=hp.nx:=q2;refine⟨id,fun⟨k1,k2,σ',k3,q,r⟩=>⟨k1,k2,σ',by rw[<-q2];exact k3,by rw[<-q1];exact q,r.sub (Nat.le_of_eq q2) fun i b p=>by rw[t];exact p⟩⟩
 ·exact hY h
def FJ (P:Ax)(call:c7)(nt:Nat)(ops:Am)(tm:Ao)(hp:Hp)(x y:Nat):Bc (Ao×Hp):=
 bif mb 0 ops.toList&&Nat.blt x ops.size&&Nat.blt y ops.size&& !(Nat.beq x y)then
  match N3 P call nt (d8 ops x y .data).toList tm hp with
  |some r1=>match N3 P call nt (moveLast (d8 ops y x .data) x).toList tm hp with
   |some r2=>lC nt (jq (d8 ops x y .data).toList (moveLast (d8 ops y x .data) x).toList x y) r1 r2|none=>none
  |none=>none
 else none
def j3 (P:Ax):Q1:=fun call nt all tm hp=>
 match N3 P call nt all tm hp with
 |some r=>some r|none=>match jj all with
  |some (x,y)=>FJ P call nt all.toArray tm hp x y|none=>none
theorem jK (hm:P.follows .mixedOrders=true):dz P (j3 P):=by
 intro call b nt ops id tm hp tm' hp' h B w0 σ a w ht hw r;unfold j3 at h;split at h
 ·rename_i K hr;cases h;exact FN hm call b nt ops id tm hp tm' hp' hr B w0 σ a w ht hw r
 ·split at h
  ·rename_i x y _;unfold FJ at h;cases hb:mb 0 ops.toList.toArray.toList&&Nat.blt x ops.toList.toArray.size&&Nat.blt y ops.toList.toArray.size&& !(Nat.beq x y)with
   |false=>grind|true=>
    rw[hb,Kc]at h;have e0:ops.toList.toArray=ops:=by simp
    rw[e0]at h hb;simp only[JM,KH]at hb;obtain⟨⟨⟨b1,b2⟩,b3⟩,b4⟩:=hb;have hx:x<ops.size:=by simp_all
    have hy:y<ops.size:=by simp_all
    have A:x≠y:=fun e=>by rw[e]at b4;simp at b4
    have f:∀(i:Nat) o,ops[i]? =some o-> ∀e∈o.after,Region.binds .any e=true->e.on<i:=by intro i o C e he v;have:=pb b1 i o (by simpa using C) e he v;omega
    split at h
    ·rename_i K h1;split at h
     ·rename_i M h2;refine wpIn_region_draw fun t=>?_;rw[hm];have hl:=lm f t;rcases hl.first hx hy A with⟨G,J,e,c⟩| ⟨G,J,e,c⟩
      ·
       rw[e]at hl⊢;have d:=hl.edge (g:= .data) c;have ha:=jL (B:=B) (w0:=w0) b (ops:=d8 ops x y .data) h1 ht hw r;have p:=iL d _ [] _ _ _ _ rfl (by simp[d8]) (fun j hj=>by simp[d8]at hj⊢;simp[hj]) ha;have u:=aE (fun e' a' w' hq=>(gX h1 h2 h).1 hq) _ p;refine N1 (dA ops x y .data) _ (fun i hi=>(hl.mem i).1 hi) ?_;simp_all
      ·
       rw[e]at hl⊢;have d:=hl.edge (g:= .data) c;have q:(d8 ops y x .data).size=ops.size:=by simp[d8]
       have z:=d.moveLast (x:=x) (by rw[q];exact hx);have ha:=jL (B:=B) (w0:=w0) b (ops:=moveLast (d8 ops y x .data) x) h2 ht hw r;have p:=iL z _ [] _ _ _ _ rfl (by simp) (fun j hj=>by simp[hj]) ha;have u:=aE (fun e' a' w' hq=>(gX h1 h2 h).2 hq) _ p;have E:=N1 (lX (ops:=d8 ops y x .data) (x:=x) (by rw[q];exact hx)) _ (fun i hi=>(d.mem i).1 hi) u;refine N1 (dA ops y x .data) _ (fun i hi=>(hl.mem i).1 hi) ?_;simp_all
     ·cases h
    ·cases h
  ·cases h
def exec (P:Ax)(ov:Aa)(n:Nat):c7:=aO P (j3 P) ov n
def yJ (hm:P.follows .mixedOrders=true){ov:Aa}(a:∀g t,ov g=some t->dq P g t)(n:Nat):L8 P (exec P ov n):=tj (jK hm) a n
end Go.Xe
end PartXmD
noncomputable section PartXm16
namespace Go.Xe
open Go.RowKit
def yes (r:Bc (Aw×Hp)):Bool:=
 match r with
 |some (.bool b,_)=>b|_=>false
def Hp.empty :Hp:=⟨.e,0⟩
def HR.start (w:Be):HR (BS.below w) w (fun _=>none) Hp.empty w:=
 ⟨rfl,rfl,rfl,Kj _,fun _ (h:_<_)=>h,fun _ _=>rfl,fun _ _=>rfl,fun i b h=>by simp[Hp.empty,Mu]at h,fun i j b b' p q h=>by simp[Hp.empty,Mu]at h⟩
def HR.toBelow {σ:Sg}{hp:Hp}{w w':Be}(h:HR (BS.below w) w σ hp w'):Below w.heap.size w w':=
 ⟨h.os,h.tape,h.output,h.size,h.kept⟩
def noOv :Aa:=fun _=>none
variable {P:Ax}
def He :∀g t,noOv g=some t->dq P g t:=fun _ _ h=>by cases h
def X3 (P:Ax)(g:Az):Func:=(P.funcs[g]?).getD {name:= "",origin:= "",params:= #[],resultTypes:= #[],nfree:=0,ntmps:=0,results:= #[],body:=none,norace:=false,tmpNames:= #[]}
variable {g:Az}
def dq.of {t:Ay}(r:Ay)(h0:(P.funcs[g]?).isSome=true)(h1:((X3 P g).name== "runtime.NumGoroutine")=false)(h2:(X3 P g).body.isNone=true)(h3:Extern.findNext (X3 P g)=none)(h4:Extern.find (X3 P g)=some (Extern.SlicesOverlaps.overlaps #[t,t] #[r]))(a:t≠fQ:=by decide):dq P g t:=by
 refine .inr ⟨a,X3 P g,r,?_,h1,h2,h3,h4⟩;unfold X3;cases h:P.funcs[g]? with
 |none=>rw[h]at h0;cases h0
 |some fn=>rfl
def ne (g0:Az)(t0:Ay)(rest:Aa):Aa:=fun g=>bif Nat.beq g g0 then some t0 else rest g
def rK {b:Az}{t0:Ay}{rest:Aa}(h:dq P b t0)(hr:∀g t,rest g=some t->dq P g t):∀g t,ne b t0 rest g=some t->dq P g t:=by
 intro g t a;unfold ne at a;cases hb:Nat.beq g b with
 |true=>rw[hb,Kc,JL]at a;rw[JQ hb,<-a];exact h|false=>rw[hb,Ke]at a;exact hr g t a
def Hh (h:wm P g):dq P g fQ:= .inl ⟨rfl,h⟩
end Go.Xe
end PartXm16
noncomputable section PartXm17
namespace Go.Xe
open Go.RowKit
section
open Go.ChangeShapes
variable {H :Type}{enc:Ay×Aw->H}{P:Ax}{w:Be}{base:Nat}{spare:Nat->Bool}{held:Bool}
end
end Go.Xe
end PartXm17
noncomputable section PartXm24
namespace Go.Xe
open Go.RowKit
def cutK :Nat->Code->Code
 |k+1,.seq _ y=>cutK k y|_,c=>c
def oj (P:Ax)(dr:Q1)(call:c7)(nt m:Nat):Nat->Code->Ao->Hp->Bc (Ao×Hp)
 |k+1,.seq x y,tm,hp=>match f9 P dr call nt none m x tm hp []with
  |some (.mk .normal tm' hp' [])=>oj P dr call nt m k y tm' hp'|_=>none
 |0,_,tm,hp=>some (tm,hp)|_,_,_,_=>none
structure St where
 tms:Af
 nx:Nat
 bls:List (Nat×Af×Nat×Nat)
def Fi (m:T Blk):List (Nat×Af×Nat×Nat)->T Blk
 | []=>m| (i,vs,e,z)::l=>(Fi m l).set i (some (.cells (fill .e 0 vs) vs.length e z))
def St.tm (s:St):Ao:=fill .e 0 s.tms
def St.hp (s:St):Hp:=⟨Fi .e s.bls,s.nx⟩
def St.of (nt:Nat)(is:Ah)(r:Bc (Ao×Hp)):Bc (Af×Nat×List (Bc (Bc (Af)×Nat×Nat))):=
 match r with
 |some (tm,hp)=>some ((List.range nt).map fun k=>(tm.get k).getD undef,hp.nx,is.map fun i=>match hp.m.get i with
  |some (.cells c n e z)=>some (d6 c 0 n,e,z)|_=>none)
 |none=>none
section
variable {P :Ax}{B:BS}{w0 w:Be}{σ:Sg}{dr:Q1}{call:c7}{nt m:Nat}{tm tm1:Ao}{hp hp1:Hp}{s:St}
def d7 {vs:Af}{j:Nat}:(fill .e 0 vs).get j=vs[j]? :=by
 rw[f6];by_cases h:j<vs.length
 ·rw[Ki (by omega),Ls]
 ·rw[Kg (by omega),Mu,LQ (by omega)]
def uT :∀ {l:List (Nat×Af×Nat×Nat)} {i:Nat} {b:Blk},(Fi .e l).get i=some b-> ∃vs e z,(i,vs,e,z)∈l/\b= .cells (fill .e 0 vs) vs.length e z
 | [],i,b,h=>by simp[Fi,Mu]at h| (j,vs,e,z)::l,i,b,h=>by
  simp only[Fi,Mw]at h;by_cases k:i=j
  ·rw[Ki k]at h;cases h;exact⟨vs,e,z,by simp[k],rfl⟩
  ·rw[Kg k]at h;obtain⟨vs,e,z,h1,h2⟩:=uT h;exact⟨vs,e,z,KT _ h1,h2⟩
def St.sub (h:St.of nt (s.bls.map (·.1)) (some (tm,hp))=some (s.tms,s.nx,s.bls.map fun b=>some (some b.2.1,b.2.2))){tmps:Al}(ht:TR σ nt tm tmps)(hw:HR B w0 σ hp w):TR σ nt s.tm tmps/\HR B w0 σ s.hp w:=by
 simp only[St.of,JL,JN]at h;obtain⟨h1,h2,h3⟩:=h;have key:∀i b,s.hp.m.get i=some b-> ∃c n e z vs,hp.m.get i=some (.cells c n e z)/\d6 c 0 n=some vs/\b= .cells (fill .e 0 vs) vs.length e z:=by
  intro i b hb;obtain⟨vs,e,z,a,rfl⟩:=uT hb;obtain⟨j,hj⟩:=KQ.1 a;have:=congrArg (·[j]?) h3;simp only[KL,hj,KG,JL]at this;split at this
  ·rename_i c n e' N hc;simp only[JL,JN]at this;obtain⟨q1,rfl,rfl⟩:=this;exact⟨c,n,_,_,vs,hc,q1,rfl⟩
  ·cases this
 refine⟨⟨ht.size,fun k=>?_⟩,hw.os,hw.tape,hw.output,hw.size,hw.old,hw.kept,fun i hi=>hw.fresh i (by rw[h2];exact hi),fun i b f=>?_,fun i j b b' p q hi hj r hp1 t=>?_⟩
 ·unfold St.tm;rw[d7,<-h1];by_cases hk:k<nt
  ·simpa [hk]using ht.at_ k
  ·have A:tmps.getD k undef=undef:=by simp[Array.getD,ht.size,hk]
   rw[A,LQ (by simp;omega)];exact MD _
 ·obtain⟨c,n,e,z,vs,a,d,rfl⟩:=key i b f;obtain⟨p,o,k1,k2,k3,C,q1,q2,J,K,M⟩:=hw.live i _ a;obtain⟨E,G⟩:=g9 d;refine⟨p,o,k1,k2.like rfl rfl,k3,C,q1,q2,J,by rw[E];exact K,fun j hj=>?_⟩;obtain⟨v,u,a1,a2,a3⟩:=M j (by omega);exact⟨v,u,by rw[d7,G j (by omega),Ks];exact a1,a2,a3⟩
 ·obtain⟨_,_,_,_,_,a,_⟩:=key i b hi;obtain⟨_,_,_,_,_,d,_⟩:=key j b' hj;exact hw.inj i j _ _ p q a d r hp1 t
def vN (b:L8 P call)(o:dz P dr){Q:Exit->Act->Be->Prop}:∀(k:Nat) {c:Code} {tm:Ao} {hp:Hp} {σ:Sg} {a:Act} {w:Be},oj P dr call nt m k c tm hp=some (tm1,hp1)->TR σ nt tm a.tmps->HR B w0 σ hp w->a.defers=[]->(∀p a1 u,TR p nt tm1 a1.tmps->HR B w0 p hp1 u->a1.defers=[]->(cutK k c).wpIn (RF none) 0 P Q a1 u)->c.wpIn (RF none) 0 P Q a w
 |0,c,tm,hp,σ,a,w,h,ht,hw,hd,hq=>by simp only[oj,JL,JN]at h;obtain⟨rfl,rfl⟩:=h;exact hq σ a w ht hw hd
 |k+1,c,tm,hp,σ,a,w,h,ht,hw,hd,hq=>by
  cases c with
  |seq x y=>
   simp only[oj]at h;split at h
   ·rename_i v hp2 hx;refine wpIn_seq (LN ((O0 (B:=B) (w0:=w0) b o m).1 x tm hp [] _ _ _ _ σ a w none hx ht hw (by rw[hd];trivial) trivial) fun e' a' w' q=>?_);obtain⟨rfl,σ',_,f,r,t⟩:=q;refine vN b o k h r t ?_ hq;cases hh:a'.defers with
    |nil=>rfl|cons d D=>rw[hh]at f;exact f.elim
   ·cases h
  |_=>cases h
end
def qK (P:Ax)(f:Az):Code:=((X3 P f).body).getD .skip
def DQ (P:Ax)(dr:Q1)(call:c7)(f k m:Nat)(s:St):Bool:=
 match f9 P dr call (X3 P f).ntmps none m (cutK k (qK P f)) s.tm s.hp []with
 |some (.mk .ret tm hp [])=>(match C8 P tm hp (X3 P f).results.toList with|some [.bool b]=>b|_=>false)
 |_=>false
def qO {P:Ax}(hm:P.follows .mixedOrders=true){ov:Aa}(A:∀g t,ov g=some t->dq P g t){f k n m:Nat}{s:St}(hs:(P.funcs[f]?).isSome=true)(hb:(X3 P f).body.isSome=true)(h1:St.of (X3 P f).ntmps (s.bls.map (·.1)) (oj P (j3 P) (exec P ov n) (X3 P f).ntmps m k (qK P f) .e ⟨.e,0⟩)=some (s.tms,s.nx,s.bls.map fun b=>some (some b.2.1,b.2.2)))(h2:DQ P (j3 P) (exec P ov n) f k m s=true)(w:Be):Calls P f #[] w fun e w'=>e= .returned (.bool true)/\Below w.heap.size w w':=by
 have a:=yJ hm A n;have z:P.funcs[f]? =some (X3 P f):=by
  unfold X3;cases h:P.funcs[f]? with
  |none=>rw[h]at hs;cases hs
  |some fn=>rfl
 unfold DQ at h2;unfold qK at h1 h2;generalize hF:X3 P f=fn at*;cases hc:fn.body with
 |none=>rw[hc]at hb;cases hb
 |some c=>
  rw[hc,KC]at h1 h2;cases hx:oj P (j3 P) (exec P ov n) fn.ntmps m k c .e ⟨.e,0⟩with
  |none=>rw[hx]at h1;cases h1
  |some r=>
   obtain⟨tm1,hp1⟩:=r;rw[hx]at h1;have h0:TR (fun _=>Option.none) fn.ntmps .e (#[]++Array.replicate fn.ntmps undef):=by have:=TR.start (MF (fun _=>Option.none)) fn.ntmps;simpa [fill]using this
   refine callsIn_wide.1 (callsIn_of_wp (n:=0) z hc trivial (vN (B:=BS.below w) (w0:=w) a (jK hm) k hx h0 (HR.start w) rfl fun G a1 R t1 K J=>?_));obtain⟨t2,M⟩:=St.sub h1 t1 K;split at h2
   ·rename_i tm hp hy;split at h2
    ·rename_i b hr;subst h2;refine LN (F:=RF none) ((O0 (B:=BS.below w) (w0:=w) a (jK hm) m).1 _ _ _ [] _ _ _ _ G a1 R none hy t2 M (by rw[J];trivial) trivial) fun e' a' w' hq=>?_;obtain⟨rfl,σ',_,o,ht,v⟩:=hq;obtain⟨us,C,q⟩:=P7 ht v hr;obtain⟨u,O,rfl,N,E⟩:=C.uncons;rw[E.unnil]at q;cases N;have p:(results fn a'.tmps).run P w'= .ok (.bool true) w':=by have he:results fn a'.tmps=(do let vs<-fn.results.mapM (pV a'.tmps);pure (if h:vs.size=1 then vs[0]else .tuple vs):Sem Aw):=rfl;rw[he,Array.mapM_eq_mapM_toList,Kp,Sem.run_map,q];rfl
     refine⟨?_,_,p,rfl,v.toBelow⟩;cases hh:a'.defers with
     |nil=>rfl|cons d D=>rw[hh]at o;exact o.elim
    ·cases h2
   ·cases h2
end Go.Xe
end PartXm24
