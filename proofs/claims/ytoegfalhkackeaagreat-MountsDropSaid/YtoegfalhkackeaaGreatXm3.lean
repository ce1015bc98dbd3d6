/- The executor, parts S, 13, 14, 15, D, 16, 17.
  Conditions: none. -/
import Derived.Test.YtoegfalhkackeaaGreatXm2
import Derived.OrdersIn
set_option linter.all false
noncomputable section
namespace Go.Xe
open Go.RowKit
def clEq (v1 v2:Af):Bool:= @decide (v1=v2) (Classical.propDecidable _)
def OI {b c:Af}(h:clEq b c=true):b=c:= @Uw _ (Classical.propDecidable _) h
def JB (v:Af):clEq v v=true:= @decide_eq_true _ (Classical.propDecidable _) rfl
def noR :Av->Bool
 | .bool _| .int _ _| .complex _ _ _| .string _| .slice _ _ _| .pointer none| .pointer (some ⟨_,_,none⟩)| .map _=>true
 |_=>false
def VR.noR {σ σ':Sg}(hs:∀i p,σ i=some p->σ' i=some p){v u:Av}(h:VR σ v u)(hn:noR v=true):VR σ' v u:=by
 cases h<;>first
  |exact .bool _|exact .int _ _|exact .string _|exact .nilp|exact .nils _ _|exact .vague _ _|exact .nilm
  | (rename_i f lo hi n h1 h2;exact .ival f lo hi n h1 h2)
  | (rename_i i o p h;exact .ptr i o p (hs _ _ h))
  | (rename_i i o p l c c' h hc hl;exact .slice i o p l c c' (hs _ _ h) hc hl)
  | (rename_i i p h;exact .map i p (hs _ _ h))
  |cases hn
def De (R:Af->Hp->Bb (Av×Hp))(args:Af)(hp:Hp):Bb (Av×Hp):=
 match args with
 | [.slice (some ⟨i,o0,none⟩) l c,x,.slice (some ⟨j,o,none⟩) m cm]=>
  bif Nat.ble unk c && Nat.beq (E7 c) 0 && !(Nat.beq i j) && Nat.ble (l + m) 67108864 then
   match hp.m.get i,hp.m.get j with
   |some bi,some bj=>
    match R [.slice (some ⟨i,o0,none⟩) l (d8 (l+m) 0),x,.slice (some ⟨j,o,none⟩) m cm] ⟨(T.set .e i (some bi)).set j (some bj),hp.nx⟩,
      R [.slice (some ⟨i,o0,none⟩) l (d8 l (l+m)),x,.slice (some ⟨j,o,none⟩) m cm] ⟨(T.set .e i (some bi)).set j (some bj),hp.nx⟩with
    |some (.slice (some ⟨a,oa,none⟩) la ca,ha),some (.slice (some ⟨b,ob,none⟩) lb cb,hb)=>
     bif Nat.beq la lb&&Nat.ble unk ca&&Nat.ble unk cb then
      match ha.m.get a,hb.m.get b with
      |some (.cells c1 k1 e1 z1),some (.cells c2 k2 e2 z2)=>
       bif Nat.ble (oa+la*z1) k1&&Nat.ble (ob+la*z1) k2&&Nat.beq e1 e2&&Nat.beq z1 z2 then
        match j7 c1 oa (la*z1),j7 c2 ob (la*z1)with
        | some v1, some v2 => bif (rQ (veq 100) v1 v2 || clEq v1 v2) && v1.all noR then
          some (.slice (some ⟨Nat.max ha.nx hb.nx,0,none⟩) la (d8 la 0),
           ⟨((hp.m.set i none).set j none).set (Nat.max ha.nx hb.nx) (some (.cells (fill .e 0 v1) (la*z1) e1 z1)),Nat.max ha.nx hb.nx+1⟩)
         else none
        |_,_=>none
       else none
      |_,_=>none
     else none
    |_,_=>none
   |_,_=>none
  else none
 |_=>none
def J5 (P:Aw)(runD:Ay->Af->Hp->Bb (Av×Hp)):List Df->Hp->Bb Hp
 | [],hp=>some hp| .mark r::ds,hp=>match hp.m.get r with
  |some .dfr=>J5 P runD ds {hp with m:=hp.m.set r none}|_=>none
 | .call g args cap::ds,hp=>match P.funcs[g]? with
  | some fn => bif fJ fn then
    match runD g (args++cap) hp with
    |some (_,hp')=>J5 P runD ds hp'|none=>none
   else none
  |none=>none
def qF (P:Aw)(fn:Func)(runD:Ay->Af->Hp->Bb (Av×Hp))(tm:Ao)(hp:Hp)(ds:List Df):Bb (Av×Hp):=
 match J5 P runD ds hp with
 |some hp'=>match I4 P tm hp' fn.results.toList with
  |some vs=>some (fG vs,hp')|none=>none
 |none=>none
def S6 (P:Aw)(dr:bB)(call:i9)(runD:Ay->Af->Hp->Bb (Av×Hp))(n:Nat)(f:Ay)(args:Af)(hp:Hp):Bb (Av×Hp):=
 match P.funcs[f]? with
 |some fn=>match fn.body with
  |some c=>match j8 P dr call (args.length+(fn.ntmps-args.length)) none n c (fill .e 0 args) hp []with
   |some (.mk .normal tm' hp' ds)=>qF P fn runD tm' hp' ds|some (.mk .ret tm' hp' ds)=>qF P fn runD tm' hp' ds|_=>none
  |none=>none
 |none=>none
def P9 (P:Aw)(dr:bB)(call:i9)(n:Nat)(f:Ay)(args:Af)(hp:Hp):Bb (Av×Hp):=
 match P.funcs[f]? with
 |some fn=>match fn.body with
  |some c=>match j8 P dr call (args.length+(fn.ntmps-args.length)) none n c (fill .e 0 args) hp []with
   |some (.mk .normal tm' hp' [])=>qF P fn (λ_ _ _=>none) tm' hp' []|some (.mk .ret tm' hp' [])=>qF P fn (λ_ _ _=>none) tm' hp' []|_=>none
  |none=>none
 |none=>none
def gO (tm:Ao):List Tmp->Af->Ao
 |t::ts,v::vs=>gO (tm.set t (some v)) ts vs|_,_=>tm
def yL (n:Nat):List Tmp->Bool
 | []=>true|t::ts=>Nat.blt t n&&yL n ts
def qM (P:Aw)(dr:bB)(call:i9)(m:Nat)(i:Nat)(args:Af)(hp:Hp):Bb (Av×Hp):=
 match hp.m.get i with
 |some (.loop .ready _ nt tms ps assign body _)=>
  bif Nat.beq ps.toList.length args.length&&yL nt ps.toList then
   match j8 P dr call nt (some i) m assign (gO tms ps.toList args) hp []with
   |some (.mk .normal tm1 hp1 ds1)=>match hp1.m.get i with
    |some (.loop .ready p1 n1 t1 q1 a1 b1 d1)=>
     match j8 P dr call nt (some i) m body tm1 {hp1 with m:=hp1.m.set i (some (.loop .busy p1 n1 t1 q1 a1 b1 d1))} ds1 with
     |some (.mk e _ hp2 _)=>match hp2.m.get i with
      |some (.loop _ _ n2 t2 q2 a2 b2 d2)=>match e with
       | .normal=>some (.bool true,{hp2 with m:=hp2.m.set i (some (.loop .ready none n2 t2 q2 a2 b2 d2))})| .ret=>some (.bool false,{hp2 with m:=hp2.m.set i (some (.loop .done (some .ret) n2 t2 q2 a2 b2 d2))})| .exit id=>some (.bool false,{hp2 with m:=hp2.m.set i (some (.loop .done (some (.exit id)) n2 t2 q2 a2 b2 d2))})|_=>none
      |_=>none
     |none=>none
    |_=>none
   |_=>none
  else none
 |_=>none
def fH (R:Af->Hp->Bb (Av×Hp))(args:Af)(hp:Hp):Bb (Av×Hp):=
 match R args hp with
 |some r=>some r|none=>De R args hp
def wkA (hp:Hp):Af->Af
 | .slice (some ⟨i, o, none⟩) l c :: xs => bif Nat.ble c 67108864 then
   match hp.m.get i with
   |some (.cells _ k _ z)=>bif Nat.ble (o+c*z) k then .slice (some ⟨i,o,none⟩) l (d8 c 0)::xs else .slice (some ⟨i,o,none⟩) l c::xs|_=>.slice (some ⟨i,o,none⟩) l c::xs
  else .slice (some ⟨i,o,none⟩) l c::xs
 |xs=>xs
def wkFn (fn:Func):Bool:=(Nat.beq fn.ntmps 33||Nat.beq fn.ntmps 95)&&match fn.params.toList,fn.resultTypes.toList with
 | [a,_,_],[r]=>Nat.beq a r|_,_=>false
def wkF (P:Aw)(f:Ay):Bool:=match P.funcs[f]? with
 |some fn=>wkFn fn|none=>false
def bZ (P:Aw)(dr:bB)(ov:Aa):Nat->i9
 |0=>⟨λ_ _ _=>none,ov,λ_ _ _=>none⟩
 |n+1=>⟨λf args hp=>bif isT (ov f)&&args.isEmpty then some (.bool true,hp)else fH (S6 P dr (bZ P dr ov n) (P9 P dr (bZ P dr ov n) n) n f) (bif wkF P f then wkA hp args else args) hp,ov,qM P dr (bZ P dr ov n) n⟩
section
variable {P :Aw}{B:BS}{w0:Bc}
def KZ (P:Aw)(f:Ay)(R:Af->Hp->Bb (Av×Hp)):Prop:=
 ∀args hp v hp',R args hp=some (v,hp')-> ∀B w0 σ w args',VRL σ args args'->HR B w0 σ hp w->
  Calls P f args'.toArray w (λe w'=>∃σ' u,e= .returned u/\Sg.gr hp.nx hp'.nx σ σ'/\VR σ' v u/\HR B w0 σ' hp' w')
def FG (P:Aw)(f:Ay)(R:Af->Hp->Bb (Av×Hp)):Prop:=
 ∀args hp v hp',R args hp=some (v,hp')-> ∀B w0 σ w args',VRL σ args args'->HR B w0 σ hp w-> ∀u,
  CallsDIn Fence.wide 0 P f args'.toArray u w (λe u' w'=>u'=u/\ ∃σ' x,e= .returned x/\Sg.gr hp.nx hp'.nx σ σ'/\VR σ' v x/\HR B w0 σ' hp' w')
variable {σ:Sg}{hp:Hp}{w:Bc}
theorem HR.touch (h:HR B w0 σ hp w){b:Nat}{o:Obj}(d:¬B b)(hl:∀i x r q,hp.m.get i=some x->Ix x r->σ.f i r=some q->q.blk≠b):HR B w0 σ hp {w with heap:=w.heap.setIfInBounds b o}:=by refine⟨h.os,h.tape,h.output,by simpa using h.size,h.old,λk hk=>?_,h.frs,λi x r hg hx=>?_,h.ij,h.rz⟩;have c:b≠k:=λe=>d (by grind);simp[Array.getElem?_setIfInBounds_ne c,h.kept k hk];obtain⟨p,o',h1,h2,h3,h4⟩:=h.liv i x r hg hx;grind
variable {tmps:Al}
def rE {fn:Func}{vs us:Af}(h1:VRL σ vs us)(h2:(fn.results.toList.mapM (Eu tmps):Sem (Af)).run P w= .ok us w):(results fn tmps).run P w= .ok (fG us) w/\VR σ (fG vs) (fG us):=by
 constructor
 .have he:results fn tmps=(do let vs<-fn.results.mapM (Eu tmps);pure (if h:vs.size=1 then vs[0]else .tuple vs):Sem Av):=rfl;rw[he,Array.mapM_eq_mapM_toList,Tx,Sem.run_map,h2];cases us with
  |nil=>rfl|cons x us=>cases us<;>rfl
 .cases vs with
  |nil=>rw[h1.unnil];exact VRL.to_tuple (VP σ)|cons x vs=>
   obtain⟨y,d,rfl,c,b⟩:=h1.uncons;cases vs with
   |nil=>rw[b.unnil];exact c|cons m vs=>obtain⟨n,f,rfl,_,_⟩:=b.uncons;exact h1.to_tuple
variable {runD:Ay->Af->Hp->Bb (Av×Hp)}
theorem CX (Q:∀g,FG P g (runD g)){fn:Func}{R:Ending->Bc->Prop}:∀(ds:List Df) (D:List Deferred) (hp hp':Hp) (σ:Sg) (w:Bc),J5 P runD ds hp=some hp'->DsR σ ds D->HR B w0 σ hp w->(∀σ' w',Sg.gr hp.nx hp'.nx σ σ'->HR B w0 σ' hp' w'->LeavesIn Fence.wide 0 P fn tmps R [] .returning w')->LeavesInM Fence.wide 0 P fn tmps R D .returning w:=by
 intro ds;induction ds with
 |nil=>
  intro D hp hp' σ w h f m k;simp only[J5,SQ]at h;subst h;cases D with
  |nil=>exact k σ w (Vz _ σ) m|cons d D=>exact f.elim
 |cons x ds M=>
  intro D hp hp' σ w h f m k;cases D with
  |nil=>cases x<;>exact f.elim
  |cons d D=>
   obtain⟨hx,f⟩:=f;cases x with
   |mark r=>simp only[J5]at h;split at h;rename_i hg;obtain⟨p,hp1,c⟩:=hx;obtain⟨p',o,N,U,V,W⟩:=m.live r _ hg;have:=Tu (N.symm.trans hp1);subst this W;have E:=(HR.drop m r).touch (o:= .deferred none) U (λi x X q hi hx hq e=>by rw[VF]at hi;by_cases n:i=r;grind;rw[Tn n]at hi;exact m.ij i r x _ X 0 q p' hi hg hx rfl (.inl n) hq N e);exact⟨by simp,.inl ⟨p'.blk,_,c,run_takeDeferred V,M D _ hp' σ _ h f E k⟩⟩;cases h
   |call g args cap=>
    simp only[J5]at h;obtain⟨b,c,u,z⟩:=hx;split at h
    .rename_i O t;cases K:fJ O with
     |false=>grind|true=>
      rw[K,Tk]at h;split at h
      .rename_i v hp1 hr;refine⟨by simp,.inr ⟨λh=>(by cases h),.func g,b,g,(d.args.toList++b.toList).toArray,c,?_,λ_ _=>trivial,?_⟩⟩
       .rw[c];have:(d.args.toList++b.toList).toArray=d.args++b:=by simp
        rw[this];exact dX t K w
       refine CallsDIn.mono (Q g (args++cap) hp v hp1 hr B w0 σ w _ (u.append z) m .returning) λe Y w' he=>?_;obtain⟨rfl,J,x,rfl,gr,_,C⟩:=he;exact M D hp1 hp' J w' h (f.mono gr.le) C λσ' G g' A=>k σ' G (VA gr g') A
      cases h
    cases h
variable {dr:bB}{call:i9}
theorem Fh (m:kG P dr)(O:P5 P call)(J:∀g,FG P g (runD g))(n:Nat)(g:Ay):KZ P g (S6 P dr call runD n g):=by
 intro args hp v hp' h B w0 σ w args' K N;simp only[S6]at h;split at h
 .rename_i fn o;split at h
  .rename_i c hc;have G:∀e tm1 hp1 b,(e= .normal\/e= .ret)->j8 P dr call (args.length+(fn.ntmps-args.length)) none n c (fill .e 0 args) hp []=some (.mk e tm1 hp1 b)->
     qF P fn runD tm1 hp1 b=some (v,hp')->
     Calls P g args'.toArray w (λe w'=>∃σ' u,e= .returned u/\Sg.gr hp.nx hp'.nx σ σ'/\VR σ' v u/\HR B w0 σ' hp' w'):=by
    intro e tm1 hp1 b he hx hr;unfold qF at hr;split at hr
    .rename_i hp2 q;split at hr
     .rename_i vs z;simp at hr;obtain⟨rfl,rfl⟩:=hr;refine callsIn_wide.1 (callsIn_of_wp_marks o hc trivial (UQ ((aX O m n).1 c _ hp [] e tm1 hp1 b σ {tmps:=args'.toArray++Array.replicate (fn.ntmps-args'.toArray.size) undef,defers:=[]} w none hx (TR.start K fn.ntmps) N trivial trivial) λe' f w' hq=>?_));obtain⟨rfl,σ',p,M,ht,A⟩:=hq;have hL:LeavesInM Fence.wide 0 P fn f.tmps (λe w'=>∃σ' u,e= .returned u/\Sg.gr hp.nx hp2.nx σ σ'/\VR σ' (fG vs) u/\HR B w0 σ' hp2 w') f.defers .returning w':=
       CX J b f.defers hp1 hp2 σ' w' q M A λC R E d=>by obtain⟨us,r,t⟩:=Z8 (ht.mono E.le) d z;obtain⟨r1,Q⟩:=rE r t;exact⟨_,r1,C,_,rfl,VA p E,Q,d⟩
      rcases he with rfl|rfl;exact hL;exact hL
     grind
    grind
   grind
  cases h
 cases h
theorem CR (o:kG P dr)(M:P5 P call)(n:Nat)(g:Ay):FG P g (P9 P dr call n g):=by
 intro args hp v hp' h B w0 σ w args' J K C;simp only[P9]at h;split at h
 .rename_i fn p;split at h
  .rename_i c hc;have E:∀e tm1 hp1,(e= .normal\/e= .ret)->j8 P dr call (args.length+(fn.ntmps-args.length)) none n c (fill .e 0 args) hp []=some (.mk e tm1 hp1 [])->
     qF P fn (λ_ _ _=>none) tm1 hp1 []=some (v,hp')->
     CallsDIn Fence.wide 0 P g args'.toArray C w (λe N w'=>N=C/\ ∃σ' u,e= .returned u/\Sg.gr hp.nx hp'.nx σ σ'/\VR σ' v u/\HR B w0 σ' hp' w'):=by
    intro e tm1 hp1 he hx hr;simp only[qF,J5]at hr;split at hr
    .rename_i vs t;simp at hr;obtain⟨rfl,rfl⟩:=hr;refine callsDIn_of_wp p hc trivial
      (UQ ((aX M o n).1 c _ hp [] e tm1 hp1 [] σ {tmps:=args'.toArray++Array.replicate (fn.ntmps-args'.toArray.size) undef,defers:=[]} w none hx (TR.start J fn.ntmps) K trivial trivial) λe' z w' hq=>?_)
     obtain⟨rfl,σ',m,f,ht,b⟩:=hq;obtain⟨us,q,r⟩:=Z8 ht b t;obtain⟨r1,A⟩:=rE q r;have f:z.defers=[]:=by
      cases G:z.defers with
      |nil=>rfl|cons d D=>rw[G]at f;exact f.elim
     rcases he with rfl|rfl;exact⟨f,_,r1,σ',_,rfl,m,A,b⟩;exact⟨f,_,r1,σ',_,rfl,m,A,b⟩
    grind
   grind
  cases h
 cases h
theorem AD {σ:Sg}{nt:Nat}:∀(ps:List Tmp) (xs ys:Af) (tm:Ao) (tmps:Al),yL nt ps=true->ps.length=xs.length->VRL σ xs ys->TR σ nt tm tmps->TR σ nt (gO tm ps xs) ((ps.zip ys).foldl (λtmps (x:Tmp×Av)=>tmps.setIfInBounds x.1 x.2) tmps)
 | [],xs,ys,tm,tmps,_,_,_,h=>by cases xs<;>simpa [gO]using h
 |t::f,[],ys,tm,tmps,_,hl,_,_=>by grind|t::f,x::xs,ys,tm,tmps,b,hl,hv,h=>by obtain⟨y,d,rfl,c,hr⟩:=hv.uncons;simp only[yL,SR]at b;exact AD f xs d _ _ b.2 (by grind) hr (h.put (SX b.1) c)
def oR (c:HR B w0 σ hp w){i:Nat}{p:Pl}(hi:σ i=some p){st:LoopState}{pend:Bb Code}{nt:Nat}{tms:Ao}{ps:Array Tmp}{assign body:Code}{db:Nat}(hg:hp.m.get i=some (.loop st pend nt tms ps assign body db))(b:Bb Code):∃w',(Instr.endRound p.blk b).run P w= .ok (.bool b.isNone) w'/\HR B w0 σ {hp with m:=hp.m.set i (some (.loop (if b.isNone then .ready else .done) b nt tms ps assign body db))} w':=by obtain⟨p',o,d,u,q,r⟩:=c.live i _ hg;have:=Tu (d.symm.trans hi);subst this;obtain⟨t,rfl,k1,k2,k3,k4,f,h,n⟩:=r;exact⟨_,run_endRound b q,HR.setO c hg d ⟨_,rfl,rfl,rfl,k3,k4,f,h,n⟩⟩
theorem Db (J:kG P dr)(ih:P5 P call)(m:Nat):∀i args hp v hp',qM P dr call m i args hp=some (v,hp')-> ∀B w0 σ w args' p,σ i=some p->VRL σ args args'->HR B w0 σ hp w-> ∃r,w.heap[p.blk]? =some (.loop r)/\args'.length=r.params.size/\RoundIn Fence.wide 0 P p.blk r.fn ((r.params.zip args'.toArray).foldl (λtmps (t,a)=>tmps.setIfInBounds t a) r.tmps) r.assign r.body w (λe w'=>∃σ' u,e= .returned u/\Sg.gr hp.nx hp'.nx σ σ'/\VR σ' v u/\HR B w0 σ' hp' w'):=by
 intro i args hp v hp' h B w0 σ w args' p hi ha hw;unfold qM at h;split at h
 .rename_i pend nt tms ps assign body db hg;cases hb:Nat.beq ps.toList.length args.length&&yL nt ps.toList with
  |false=>grind|true=>
   rw[hb,Tk]at h;simp only[SR]at hb;have d:=SY hb.1;obtain⟨p',o,q1,q2,q3,q4⟩:=hw.live i _ hg;have:=Tu (q1.symm.trans hi);subst this;obtain⟨b,rfl,k1,k2,rfl,rfl,rfl,k6,k7⟩:=q4;refine⟨b,q3,by rw[<-ha.1,<-d];simp,?_⟩;have f:(b.params.zip args'.toArray).foldl (λtmps (x:Tmp×Av)=>tmps.setIfInBounds x.1 x.2) b.tmps=(b.params.toList.zip args').foldl (λtmps (x:Tmp×Av)=>tmps.setIfInBounds x.1 x.2) b.tmps:=by rw[<-Array.foldl_toList,Array.toList_zip]
   have M:=AD b.params.toList args args' tms b.tmps hb.2 d ha ⟨k6.1,k6.2⟩;rw[<-f]at M;split at h;rename_i tm1 hp1 C hx;refine roundIn_of_wpIn trivial (UQ ((aX ih J m).1 b.assign _ hp [] .normal tm1 hp1 C σ {tmps:=_,defers:=[]} w (some p'.blk) hx M hw trivial ⟨p',hi,rfl⟩) λe1 a1 w1 W=>?_);obtain⟨rfl,ac,E,hd1,ht1,N⟩:=W;have c:=E.le _ _ hi;split at h;rename_i p1 n1 t1 r1 R T U K;obtain⟨p2,o2,u1,u2,u3,u4⟩:=N.live i _ K;have:=Tu (u1.symm.trans c);subst this;obtain⟨O,rfl,m1,m2,m3,m4,m5,m6,m7⟩:=u4;refine⟨_,run_beginRound u3 m1,?_⟩;have Y:=HR.setO (b':= .loop .busy p1 n1 t1 r1 R T U) N K c (o:= .loop {O with state:= .busy}) ⟨_,rfl,rfl,m2,m3,m4,m5,m6,m7⟩;split at h;rename_i e ab hp2 V Z;refine UQ ((aX ih J m).1 b.body _ _ C e ab hp2 V ac a1 _ (some p2.blk) Z ht1 Y hd1 ⟨p2,c,rfl⟩) λe2 a2 w2 X=>?_;obtain⟨rfl,A,G,_,_,z⟩:=X;have q:=G.le _ _ c;have gr:=VA E G;split at h;rename_i ai aa n3 t3 r3 ad ae ah n;split at h;simp at h;obtain⟨rfl,rfl⟩:=h;obtain⟨Q,s1,s2⟩:=oR z q n none;exact⟨_,Q,s1,A,_,rfl,gr,.bool true,s2⟩;simp at h;obtain⟨rfl,rfl⟩:=h;obtain⟨Q,s1,s2⟩:=oR z q n (some .ret);exact⟨_,Q,s1,A,_,rfl,gr,.bool false,s2⟩;rename_i id;cases h;obtain⟨Q,s1,s2⟩:=oR z q n (some (.exit id));exact⟨_,Q,s1,A,_,rfl,gr,.bool false,s2⟩;cases h;cases h;cases h;cases h;cases h
 cases h
theorem wK {E:Sg}{ha:Hp}{w':Bc}{i j a N:Nat}{U V:Blk}{la ca:Nat}{W c2:Ao}{k k2 G e z:Nat}{u:Av}(X:HR B w0 σ hp w)(aw:hp.m.get i=some U)(ax:hp.m.get j=some V)(hr:HR (rest B σ ⟨(T.set .e i (some U)).set j (some V),hp.nx⟩ w) w E ha w')(gr:Sg.gr hp.nx ha.nx σ E)(hv:VR E (.slice (some ⟨a,G,none⟩) la ca) u)(au:unk<=ca)(aa:ha.m.get a=some (.cells c2 k2 e z))(hk:G+k<=k2)(hc:∀x,x<k->W.get x=c2.get (G+x))(al:∀x v,x<k->W.get x=some v->noR v=true)(hN:ha.nx<=N):∃σ',Sg.gr hp.nx (N+1) σ σ'/\VR σ' (.slice (some ⟨N,0,none⟩) la (d8 la 0)) u/\HR B w0 σ' ⟨((hp.m.set i none).set j none).set N (some (.cells W k e z)),N+1⟩ w':=by
 have K:∀x b,((T.set .e i (some U)).set j (some V):T Blk).get x=some b->(x=i\/x=j)/\hp.m.get x=some b:=by intro x b hg;rw[VF]at hg;by_cases hj:x=j;grind;rw[Tn hj,VF]at hg;by_cases hi:x=i;grind;rw[Tn hi]at hg;simp[VE]at hg
 have ao:HR B w0 σ ⟨(T.set .e i (some U)).set j (some V),hp.nx⟩ w:=X.less (λx b hg=>(K x b hg).2);have hb:=ao.back hr;cases hv with
 | slice _ _ p _ _ c' hpa ah ac =>
 have ai:E N=none:=hb.fresh N hN;let t : Sg:=⟨λi r=>if r=0 then E.f i 0 else σ.f i r⟩
 have J:∀i,t i=E i:=λi=>rfl;have Z:∀i r,r≠0->t.f i r=σ.f i r:=λi r h=>Tn h;have c:Sg.le σ t:=λi p {r} h=>by by_cases h0:r=0;subst h0;exact(J i).trans (gr.le _ _ h);grind
 have A:=VB (σ:=t) (i:=N) {p with dl:=p.dl+G} ((J N).trans ai);have ay:=gr.nx;obtain⟨p',o,l1,l2,l3,l4⟩:=hb.live a _ aa;have:p'=p:=Tu (l1.symm.trans hpa);subst this;obtain⟨q',o',r1,r2,r3,_⟩:=hr.live a _ aa;have:q'=p':=Tu (r1.symm.trans hpa);subst this;have old:∀x b,x≠N->((((hp.m.set i none).set j none).set N (some (.cells W k e z))):T Blk).get x=some b->hp.m.get x=some b/\ ∀r,Ix b r-> ∃q o,σ.f x r=some q/\NB B q.blk b/\w.heap[q.blk]? =some o/\BX σ q r b o/\rest B σ ⟨(T.set .e i (some U)).set j (some V),hp.nx⟩ w q.blk:=by
  intro x b n hg;rw[VF,Tn n,VF]at hg;by_cases hj:x=j;grind
  .rw[Tn hj,VF]at hg;by_cases hi:x=i;grind
   .rw[Tn hi]at hg;refine⟨hg,λr hx=>?_⟩;obtain⟨q,o,h1,h2,h3,h4⟩:=X.liv x b r hg hx;refine⟨q,o,h1,h2,h3,h4,.inr ⟨(Ti.1 h3).1,λy b' s q' hy M am=>?_⟩⟩;obtain⟨aq,aj⟩:=K y b' hy;have ap:y≠x:=by grind
    exact X.ij y x _ _ s r q' q aj hg M hx (.inl ap) am h1
 refine⟨t.ext N {q' with dl:=q'.dl+G},⟨Sg.le_trans c A,λx hx=>(Vw _ _ _ (by omega)).trans ((J x).trans (gr.low x hx)),by omega⟩,?_,?_⟩;have:=VR.slice (σ:=t.ext N {q' with dl:=q'.dl+G}) N 0 {q' with dl:=q'.dl+G} la (d8 la 0) c' (Vy _ _ _) (.inr ⟨q0 _ _,by rw[H6 F6];exact ac,.inl (G3 F6),by rcases ah with⟨_,h⟩| ⟨_,_,_,h⟩;omega;exact h⟩) ac;exact this
 .refine⟨hb.os,hb.tape,hb.output,hb.size,hb.old,hb.kept,λx r hx=>(Vx _ _ _ (.inl (by have:N+1<=x:=hx;omega))).trans (by have h1:N+1<=x:=hx;by_cases h0:r=0;subst h0;exact(J x).trans (hb.frs x 0 (by omega));exact(Z x r h0).trans (X.frs x r (by have:=gr.nx;omega))),?_,?_,λx b hg ad=>?_⟩;intro x b r hg d;by_cases hx:x=N;subst hx;rw[VF,Tp rfl]at hg;cases hg;have R:r=0:=d;subst R;obtain⟨C,e1,e2,Y,e4,e5⟩:=l4;refine⟨{q' with dl:=q'.dl+G},o,Vy _ _ _,l2,l3,C,e1,e2,Y,(by show q'.dl+G+k<=q'.siz;omega),λy hy=>?_⟩;obtain⟨v,u,a1,a2,a3⟩:=e5 (G+y) (by omega);exact⟨v,u,(hc y hy).trans a1,(by show C[q'.dl+G+y]? =some u;rw[Ud];exact a2),(a3.noR (λi p h=>(J i).trans h) (al y v hy ((hc y hy).trans a1))).mono A⟩;obtain⟨av,ho⟩:=old x b hx hg;obtain⟨q,o,h1,h2,h3,h4,h5⟩:=ho r d;exact⟨q,o,A _ _ (c _ _ h1),h2,(hr.kept _ h5).trans h3,h4.mono (Sg.le_trans c A)⟩
  .intro x y O b2 r s p1 p2 hx hy d M ak hp1 hp2;have ae:∀x O r p1,((((hp.m.set i none).set j none).set N (some (.cells W k e z))):T Blk).get x=some O->Ix O r->(t.ext N {q' with dl:=q'.dl+G}).f x r=some p1->
     (x=N/\r=0/\p1.blk=q'.blk)\/(x≠N/\hp.m.get x=some O/\σ.f x r=some p1/\rest B σ ⟨(T.set .e i (some U)).set j (some V),hp.nx⟩ w p1.blk):=by
    intro x O r p1 hx d hp1;by_cases n:x=N;subst n;rw[VF,Tp rfl,SQ]at hx;subst hx;have R:r=0:=d;subst R;exact .inl ⟨rfl,rfl,by rw[Tu (hp1.symm.trans (Vy _ _ _))]⟩;obtain⟨ab,ho⟩:=old x O n hx;obtain⟨q,o,h1,_,_,_,h5⟩:=ho r d;have e1:p1=q:=Tu (hp1.symm.trans (A _ _ (c _ _ h1)));grind
   rcases ae x O r p1 hx d hp1 with⟨e1,e2,Y⟩| ⟨e1,e2,Y,e4⟩<;>rcases ae y b2 s p2 hy M hp2 with⟨k1,k2,k3⟩| ⟨k1,k2,k3,k4⟩;omega;exactλQ=>r2 (Y▸Q▸k4);exactλQ=>r2 (k3▸Q▸e4);exact X.ij x y _ _ r s _ _ e2 k2 d M ak Y k3
  .have n:x≠N:=by rintro rfl;have hg:((((hp.m.set i none).set j none).set x (some (.cells W k e z))):T Blk).get x=some b:=hg;rw[VF,Tp rfl,SQ]at hg;subst hg;cases ad
   obtain⟨ab,_⟩:=old x b n hg;obtain⟨⟨q,hq⟩,an⟩:=X.rz x b ab ad;exact⟨⟨q,A _ _ (c _ _ hq)⟩,λr h0 hx=>by rw[Vx _ _ _ (.inl n),Z x r h0];exact an r h0 hx⟩
theorem Dg {f:Ay}{R:Af->Hp->Bb (Av×Hp)}(hR:KZ P f R):KZ P f (De R):=by
 intro args hp v hp' h B w0 σ w args' J hw;unfold De at h;split at h;case h_2=>cases h
 rename_i i o0 l c x j o m cm;cases hb:Nat.ble unk c&&Nat.beq (E7 c) 0&& !(Nat.beq i j)&&Nat.ble (l+m) 67108864 with
 |false=>grind|true=>
 rw[hb,Tk]at h;simp only[SR]at hb;obtain⟨⟨⟨b1,b2⟩,b3⟩,b4⟩:=hb;have b1:=SX b1;have b4:=SX b4;split at h;case h_2=>cases h
 rename_i bi bj aa ab;split at h;case h_2=>cases h
 rename_i a oa X ca ha b ob lb cb Z hA hB;cases q:Nat.beq X lb&&Nat.ble unk ca&&Nat.ble unk cb with
 |false=>grind|true=>
 rw[q,Tk]at h;simp only[SR]at q;have d1:=SY q.1.1;have d2:=SX q.1.2;have d3:=SX q.2;subst d1;split at h;case h_2=>cases h
 rename_i c1 k1 e1 Y c2 k2 e2 z2 ai aj;cases n:Nat.ble (oa+X*Y) k1&&Nat.ble (ob+X*Y) k2&&Nat.beq e1 e2&&Nat.beq Y z2 with
 |false=>grind|true=>
 rw[n,Tk]at h;simp only[SR]at n;have f0:=SX n.1.1.1;have f1:=SX n.1.1.2;have f2:=SY n.1.2;have f3:=SY n.2;subst f2;subst f3;split at h;case h_2=>cases h
 rename_i z v2 ac ak;cases d:(rQ (veq 100) z v2||clEq z v2)&&z.all noR with
 |false=>grind|true=>
 rw[d,Tk]at h;cases h;rw[SR]at d;obtain⟨G,ap⟩:=d;have am:z=v2:=by rw[Uu]at G;exact G.elim (iF (Om 100)) OI
 subst am;have al:=(m9 ac).1;have A:∀x,x<X*Y->(fill .e 0 z).get x=c1.get (oa+x):=by intro x hx;rw[<-(m9 ac).2 x hx];exact p7 z x (by omega)
 have ae:∀x v,x<X*Y->(fill .e 0 z).get x=some v->noR v=true:=by intro x v hx hg;rw[p7 z x (by omega)]at hg;grind
 have O:∀x,x<X*Y->(fill .e 0 z).get x=c2.get (ob+x):=by intro x hx;rw[<-(m9 ak).2 x hx];exact p7 z x (by omega)
 have W:∀x b,((T.set .e i (some bi)).set j (some bj):T Blk).get x=some b->hp.m.get x=some b:=by intro x b hg;rw[VF]at hg;by_cases hj:x=j;grind;rw[Tn hj,VF]at hg;by_cases hi:x=i;grind;rw[Tn hi]at hg;simp[VE]at hg
 have E:=(hw.less W).max;obtain⟨s',r,rfl,hs,t⟩:=J.uncons;cases hs with
 | slice _ _ p _ _ c' ah aq K =>
 obtain⟨ao,C⟩:O8 c<=c'/\p.dl+o0+c'*p.esz<=p.siz:=by grind
 have ad:l+m<unk:=by unfold unk;omega
 by_cases M:l+m<=c'
 .have Q:VR σ (.slice (some ⟨i,o0,none⟩) l (d8 (l+m) 0)) (.slice (some ⟨p.blk,p.dl+o0,none⟩) l c'):=
   .slice i o0 p l _ c' ah (.inr ⟨q0 _ _,by rw[H6 F6];exact M,.inl (G3 F6),C⟩) K
  refine(hR _ _ _ _ hA _ _ _ _ _ (VO Q t) E).mono λe w' he=>?_;obtain⟨an,u,rfl,gr,U,V⟩:=he;obtain⟨σ',q1,q2,q3⟩:=wK (N:=Nat.max ha.nx Z.nx) hw aa ab V gr U d2 ai f0 A ae (Nat.le_max_left _ _);grind
 .have Q:VR σ (.slice (some ⟨i,o0,none⟩) l (d8 l (l+m))) (.slice (some ⟨p.blk,p.dl+o0,none⟩) l c'):=
   .slice i o0 p l _ c' ah (.inr ⟨q0 _ _,by rw[H6 ad];exact K,.inr (by rw[G3 ad];omega),C⟩) K
  refine(hR _ _ _ _ hB _ _ _ _ _ (VO Q t) E).mono λe w' he=>?_;obtain⟨an,u,rfl,gr,U,V⟩:=he;obtain⟨σ',q1,q2,q3⟩:=wK (N:=Nat.max ha.nx Z.nx) hw aa ab V gr U d3 aj f1 O ae (Un _ _);grind
theorem Sw (m:HR B w0 σ hp w){args args':Af}(h:VRL σ args args'):VRL σ (wkA hp args) args':=by
 unfold wkA;split
 .rename_i i o l c xs;cases hc:Nat.ble c 67108864 with
  |false=>exact h|true=>
  split
  .rename_i cs k e z hg;cases hk:Nat.ble (o+c*z) k with
   |false=>exact h|true=>
   have hc:=SX hc;have hk:=SX hk;have f:c<unk:=by unfold unk;omega
   obtain⟨y,ys,rfl,h1,h2⟩:=h.uncons;refine VO ?_ h2;cases h1 with
   |slice _ _ p _ _ c' d b hl=>obtain⟨k1,k2⟩:=m.place hg d;rcases b with⟨rfl,_⟩| ⟨b,_⟩;exact .slice i o p l _ _ d (.inr ⟨q0 _ _,by rw[H6 (by omega)];exact Tq _,.inl (G3 (by omega)),by grind⟩) hl;omega
  exact h
 exact h
theorem Ds (b:kG P dr){ov:Aa}(c:∀g t,ov g=some t->kI P g t):∀n,P5 P (bZ P dr ov n):=by
 intro n;induction n with
 |zero=>exact⟨(λg args hp v hp' h=>by cases h),c,(λi args hp v hp' h=>by cases h)⟩|succ n m=>
  refine⟨λg args hp v hp' h=>?_,c,Db b m n⟩;simp only[bZ,fH]at h;cases ht:isT (ov g)&&args.isEmpty with
  |true=>
   rw[ht,Tk]at h;cases h;rw[SR]at ht;intro B w0 σ w args' d f;obtain rfl:=List.isEmpty_iff.1 ht.2;obtain rfl:=d.unnil;have h1:=ht.1;unfold isT at h1;split at h1
   .rename_i t e;rcases c g t e with⟨_,k⟩| ⟨k,_⟩;exact(k w).mono λe w' he=>⟨σ,_,he.1,Vz _ σ,.bool true,f.below he.2⟩
    simp_all
   grind
  |false=>
  rw[ht,Tl]at h;have hb:=Fh b m (CR b m n) n g;intro B w0 σ w args' d f;have d:VRL σ (bif wkF P g then wkA hp args else args) args':=by
   cases wkF P g with
   |true=>exact Sw f d|false=>grind
  split at h;rename_i r hr;cases h;exact hb _ hp v hp' hr B w0 σ w args' d f;exact Dg hb _ hp v hp' h B w0 σ w args' d f
end
structure Ent where
 i:Nat
 o:Oper
 pre:Nat
 tm:Ao
 S:Hp
 S2:Hp
 I:Nat
 wt:Bool
 r:Av
 nw:Bb Nw
def takes (nx0:Nat)(m:Nat->Bool):List Ent->Hp->Hp
 | [],S=>S|e::es,S=>match e.nw with
  |some n=>bif m e.i then takes nx0 m es (S.take (nx0+e.i) n)else takes nx0 m es S|none=>takes nx0 m es S
def wE (pre I:Nat)(j:Nat):Bool:=pre.testBit j&& !I.testBit j
def xZ (I:Nat)(j:Nat):Bool:= !I.testBit j
structure Out where
 tm:Ao
 S:Hp
 I:Nat
 es:List Ent
def xgo (P:Aw)(call:i9)(nt:Nat)(all:An)(nx0:Nat):List (Oper×Nat)->Nat->Ao->Hp->Nat->List Ent->Bb Out
 | [],_,tm,S,I,es=>some ⟨tm,S,I,es⟩| (o,pre)::rest,i,tm,S,I,es=>
  bif C4 nt o.dst then
   bif v5 all tm o then
    match j4 o.op with
    |0=>match xop P call tm S o.op with
     |some (v,_)=>xgo P call nt all nx0 rest (i+1) (y7 tm o.dst v) S I (⟨i,o,pre,tm,S,S,I,true,v,none⟩::es)|none=>none
    |1=>match xrd P tm S o.op with
     |some v=>xgo P call nt all nx0 rest (i+1) (y7 tm o.dst v) S I (⟨i,o,pre,tm,S,S,I,true,v,none⟩::es)|none=>none
    |2=>match xnw P tm o.op with
     |some n=>xgo P call nt all nx0 rest (i+1) (y7 tm o.dst (n.val (nx0+i))) S I (⟨i,o,pre,tm,S,S,I,true,n.val (nx0+i),some n⟩::es)|none=>none
    |_=>match xop P call tm (takes nx0 (wE pre I) es S) o.op with
     |some (v,S2)=>xgo P call nt all nx0 rest (i+1) (y7 tm o.dst v) S2 (I|||pre) (⟨i,o,pre,tm,S,S2,I,true,v,none⟩::es)|none=>none
   else xgo P call nt all nx0 rest (i+1) (y7 tm o.dst undef) S I (⟨i,o,pre,tm,S,S,I,false,undef,none⟩::es)
  else none
structure FI (P:Aw)(call:i9)(nt:Nat)(all:An)(nx0:Nat)(e:Ent)(es:List Ent)(tm':Ao)(S':Hp)(I':Nat):Prop where
 dst:C4 nt e.o.dst=true
 wt:e.wt=v5 all e.tm e.o
 tm:tm'=y7 e.tm e.o.dst e.r
 S2:e.S2=S'
 un:e.wt=false->e.r=undef/\e.nw=none
 low:(e.wt=false\/j4 e.o.op≠3)->S'=e.S/\I'=e.I
 k0:e.wt=true->j4 e.o.op=0-> ∀S,xop P call e.tm S e.o.op=some (e.r,S)
 k1:e.wt=true->j4 e.o.op=1->xrd P e.tm e.S e.o.op=some e.r
 k2:e.wt=true->j4 e.o.op=2-> ∃n,xnw P e.tm e.o.op=some n/\e.r=n.val (nx0+e.i)/\e.nw=some n
 k3:e.wt=true->3<=j4 e.o.op->xop P call e.tm (takes nx0 (wE e.pre e.I) es e.S) e.o.op=some (e.r,S')/\I'=e.I|||e.pre
 nw:j4 e.o.op≠2->e.nw=none
inductive N5 (P:Aw)(call:i9)(nt:Nat)(all:An)(nx0:Nat)(tmN:Ao)(SN:Hp)(IN:Nat):List Ent->List Ent->Ao->Hp->Nat->Prop
 |nil (es:List Ent):N5 P call nt all nx0 tmN SN IN es [] tmN SN IN
 | cons (e : Ent) (es s : List Ent) (tm' : Ao) (S' : Hp) (I' : Nat) (hi : e.i = es.length) (h : FI P call nt all nx0 e es tm' S' I')
   (hc:N5 P call nt all nx0 tmN SN IN (e::es) s tm' S' I'):N5 P call nt all nx0 tmN SN IN es (e::s) e.tm e.S e.I
theorem uW (o:Op):j4 o<=3:=by unfold j4;grind
section
variable {P :Aw}{call:i9}{nt:Nat}{all:An}{nx0:Nat}{tmN:Ao}{SN:Hp}{IN:Nat}
theorem KJ :∀(ps:List (Oper×Nat)) (i:Nat) (tm:Ao) (S:Hp) (I:Nat) (es:List Ent) (out:Out),xgo P call nt all nx0 ps i tm S I es=some out->i=es.length-> ∃s,out.es=s.reverse++es/\s.map (λe=>(e.o,e.pre))=ps/\N5 P call nt all nx0 out.tm out.S out.I es s tm S I:=by
 intro ps;induction ps with
 |nil=>intro i tm S I es out h hi;simp only[xgo,SQ]at h;subst h;exact⟨[],rfl,rfl,.nil es⟩
 |cons p ps t=>
  intro i tm S I es out h hi;obtain⟨o,pre⟩:=p;simp only[xgo]at h;cases c:C4 nt o.dst with
  |false=>grind|true=>
   rw[c,Tk]at h;have next:∀(e:Ent) (S':Hp) (I':Nat),e.i=i->e.o=o->e.pre=pre->e.tm=tm->e.S=S->e.I=I->FI P call nt all nx0 e es (y7 tm o.dst e.r) S' I'->
     xgo P call nt all nx0 ps (i+1) (y7 tm o.dst e.r) S' I' (e::es)=some out->
     ∃s,out.es=s.reverse++es/\s.map (λe=>(e.o,e.pre))=(o,pre)::ps/\N5 P call nt all nx0 out.tm out.S out.I es s tm S I:=by
    rintro e S' I' rfl rfl rfl rfl rfl rfl hs hx;obtain⟨s,h1,h2,h3⟩:=t _ _ _ _ _ _ hx (by grind);exact⟨e::s,by grind,by grind,.cons e es s _ _ _ hi hs h3⟩
   cases b:v5 all tm o with
   |false=>rw[b,Tl]at h;refine next ⟨i,o,pre,tm,S,S,I,false,undef,none⟩ S I rfl rfl rfl rfl rfl rfl ⟨c,b.symm,rfl,rfl,λ_=>⟨rfl,rfl⟩,λ_=>⟨rfl,rfl⟩,?_,?_,?_,?_,λ_=>rfl⟩ h<;>(intro hf;cases hf)
   |true=>
    rw[b,Tk]at h;split at h
    .rename_i hk;split at h
     .rename_i v S2 hx;obtain⟨r,hr⟩:=Fs hk;have d:r=some v:=by rw[hr]at hx;exact(A7 hx).1
      refine next ⟨i,o,pre,tm,S,S,I,true,v,none⟩ S I rfl rfl rfl rfl rfl rfl ⟨c,b.symm,rfl,rfl,λhf=>(by grind),λ_=>⟨rfl,rfl⟩,λ_ _ S=>?_,λ_ h1=>?_,λ_ h1=>?_,λ_ h1=>?_,λ_=>rfl⟩ h
      rw[hr,d];rfl;grind;grind;grind
     cases h
    .rename_i hk;split at h
     .rename_i v hx;refine next ⟨i,o,pre,tm,S,S,I,true,v,none⟩ S I rfl rfl rfl rfl rfl rfl ⟨c,b.symm,rfl,rfl,λhf=>(by grind),λ_=>⟨rfl,rfl⟩,λ_ h1=>?_,λ_ _=>hx,λ_ h1=>?_,λ_ h1=>?_,λ_=>rfl⟩ h
      grind;grind;grind
     cases h
    .rename_i hk;split at h
     .rename_i n hx;refine next ⟨i,o,pre,tm,S,S,I,true,n.val (nx0+i),some n⟩ S I rfl rfl rfl rfl rfl rfl ⟨c,b.symm,rfl,rfl,λhf=>(by grind),λ_=>⟨rfl,rfl⟩,λ_ h1=>?_,λ_ h1=>?_,λ_ _=>⟨n,hx,rfl,rfl⟩,λ_ h1=>?_,λh1=>absurd hk h1⟩ h
      grind;grind;grind
     cases h
    .rename_i f m q;have h3:j4 o.op=3:=by have:=uW o.op;grind
     split at h
     .rename_i v S2 hx;refine next ⟨i,o,pre,tm,S,S2,I,true,v,none⟩ S2 (I|||pre) rfl rfl rfl rfl rfl rfl ⟨c,b.symm,rfl,rfl,λhf=>(by grind),λhl=>?_,λ_ h1=>?_,λ_ h1=>?_,λ_ h1=>?_,λ_ _=>⟨hx,rfl⟩,λ_=>rfl⟩ h
      grind;grind;grind;grind
     cases h
variable {es s:List Ent}{tm:Ao}{S:Hp}{I:Nat}
theorem N5.get (h:N5 P call nt all nx0 tmN SN IN es s tm S I):∀ {k:Nat} {e:Ent},s[k]? =some e->e.i=es.length+k/\ ∃tm' S' I',FI P call nt all nx0 e ((s.take k).reverse++es) tm' S' I'/\N5 P call nt all nx0 tmN SN IN (e::((s.take k).reverse++es)) (s.drop (k+1)) tm' S' I':=by induction h<;>grind
theorem N5.upTo (h:N5 P call nt all nx0 tmN SN IN es s tm S I):∀ {k:Nat} {e:Ent},s[k]? =some e->N5 P call nt all nx0 e.tm e.S e.I es (s.take k) tm S I:=by
 induction h with
 |nil es=>grind|cons e0 es s tm' S' I' hi hs hc b=>
  intro k e h;cases k with
  |zero=>simp at h;subst h;exact .nil es|succ k=>exact .cons e0 es _ tm' S' I' hi hs (b h)
theorem N5.tm_none (h:N5 P call nt all nx0 tmN SN IN es s tm S I){t:Nat}(hn:∀e∈s,e.o.dst≠some t):tmN.get t=tm.get t:=by
 induction h with
 |nil es=>rfl|cons e0 es s tm' S' I' hi hs hc b=>
  rw[b (λe he=>hn e (by grind)),hs.tm];have h0:=hn e0 (by simp);unfold y7;cases c:e0.o.dst with
  |none=>rfl|some d=>rw[VF,Tn (λe=>h0 (by grind))]
theorem N5.tm_some (h:N5 P call nt all nx0 tmN SN IN es s tm S I):∀ {k:Nat} {e:Ent} {t:Nat},s[k]? =some e->e.o.dst=some t->(∀(j:Nat) e',s[j]? =some e'->j≠k->e'.o.dst≠some t)->tmN.get t=some e.r:=by
 induction h with
 |nil es=>grind|cons e0 es s tm' S' I' hi hs hc m=>
  intro k e t h c d;cases k with
  |zero=>
   simp at h;subst h;have b:∀e∈s,e.o.dst≠some t:=by intro e he;obtain⟨j,hj,rfl⟩:=List.mem_iff_getElem.1 he;exact d (j+1) _ (by simp) (by omega)
   rw[hc.tm_none b,hs.tm];unfold y7;rw[c,VF,Tp rfl]
  |succ k=>exact m h c (λj e' hj f=>d (j+1) e' (by grind) (by omega))
theorem N5.still (h:N5 P call nt all nx0 tmN SN IN es s tm S I)(hn:∀e∈s,j4 e.o.op≠3):SN=S/\IN=I:=by
 induction h with
 |nil es=>grind|cons e0 es s tm' S' I' hi hs hc b=>obtain⟨h3,h4⟩:=hs.low (.inr (hn e0 (by simp)));grind
end
section
variable {P :Aw}{B:BS}{w0:Bc}{σ:Sg}{hp:Hp}{w:Bc}
variable {id:Nat}
theorem Ext.take {d b b':Nat}{n n':Nw}(h:Ext B σ hp w id n b)(h':Ext B σ hp w d n' b')(hb:b≠b'):Ext B σ (hp.take id n) w d n' b':=by obtain⟨p,o,f,m,t,u,v,z⟩:=h';obtain⟨q,D,A,C,_⟩:=h;refine⟨p,o,f,m,t,u,v,?_⟩;intro i c x r hg hx hr;simp only[Hp.take,VF]at hg;by_cases hi:i=id;rw[Tp hi,SQ]at hg;subst hi;subst hg;have:=(Vf n.rg).1 hx;grind;grind
def Ext.step {f S2:Hp}{b:Nat}{n:Nw}(h:Ext B σ f w id n b){σ':Sg}{w':Bc}(k:HR (rest B σ f w) w σ' S2 w')(d:Sg.le σ σ'):Ext B σ' S2 w' id n b:=by
 obtain⟨p,o,z,A,u,C,v,E⟩:=h;have hr:rest B σ f w b:= .inr ⟨(Ti.1 u).1,λi c r q hg hx hq=>E i c r q hg hx hq⟩;refine⟨p,o,d _ _ z,A,by rw[k.kept b hr];exact u,C.mono d,v,?_⟩;intro i c r q hg hx hq t;obtain⟨q',D,G,m,_⟩:=k.liv i c r hg hx;have:q'=q:=Tu (G.symm.trans hq);subst this;rw[t]at m;cases hc:dM c with
 |true=>exact v (B.sub _ (m.yes hc))|false=>exact m.no hc hr
theorem Ext.lay {d b':Nat}{n':Nw}(h':Ext B σ hp w d n' b')(A:HR B w0 σ hp w)(f:σ id=none)(m:Pl)(o:Obj):Ext B (σ.ext id m) hp (w.alloc o) d n' b':=by obtain⟨p,C,n,t,h,u,v,E⟩:=h';have b:=VB m f;refine⟨p,C,b _ _ n,t,by rw[Below.heap_alloc _ _ _ (Ti.1 h).1];exact h,u.mono b,v,?_⟩;intro i c r q hg hx hq;obtain⟨q',D,z,_⟩:=A.liv i c r hg hx;have:=(b _ _ z).symm.trans hq;grind
theorem Oh {nx0:Nat}{m:Nat->Bool}:∀(es:List Ent) {hp:Hp},HR B w0 σ hp w->(∀(j:Nat) e n,es[j]? =some e->e.nw=some n->m e.i=true-> ∃b,Ext B σ hp w (nx0+e.i) n b)->(∀(j j':Nat) e e' n n' b b',es[j]? =some e->es[j']? =some e'->j≠j'->e.nw=some n->e'.nw=some n'->m e.i=true->m e'.i=true->Ext B σ hp w (nx0+e.i) n b->Ext B σ hp w (nx0+e'.i) n' b'->b≠b')->HR B w0 σ (takes nx0 m es hp) w/\(takes nx0 m es hp).nx=hp.nx/\ ∀c n' b',Ext B σ hp w c n' b'->(∀(j:Nat) e n b,es[j]? =some e->e.nw=some n->m e.i=true->Ext B σ hp w (nx0+e.i) n b->b≠b')->Ext B σ (takes nx0 m es hp) w c n' b':=by
 intro es;induction es with
 |nil=>intro hp E _ _;exact⟨E,rfl,λc n' b' h _=>h⟩
 |cons e es N=>
  intro hp E h1 h2;cases hn:e.nw with
  |none=>simp only[takes,hn];obtain⟨r,t,u⟩:=N E (λj e n hj=>h1 (j+1) e n (by grind)) (λj j' e e' n n' b b' hj d f=>h2 (j+1) (j'+1) e e' n n' b b' (by grind) (by simpa using d) (by omega));exact⟨r,t,λc n' b' hx o=>u c n' b' hx (λj e n b hj=>o (j+1) e n b (by grind))⟩
  |some n=>
   cases hm:m e.i with
   |false=>simp only[takes,hn,hm,Tl];obtain⟨r,t,u⟩:=N E (λj e n hj=>h1 (j+1) e n (by grind)) (λj j' e e' n n' b b' hj d f=>h2 (j+1) (j'+1) e e' n n' b b' (by grind) (by simpa using d) (by omega));exact⟨r,t,λc n' b' hx o=>u c n' b' hx (λj e n b hj=>o (j+1) e n b (by grind))⟩
   |true=>
    simp only[takes,hn,hm,Tk];obtain⟨b,hb⟩:=h1 0 e n rfl hn hm;have keep:∀ {c:Nat} {n':Nw} {b':Nat},Ext B σ hp w c n' b'->b≠b'->Ext B σ (hp.take (nx0+e.i) n) w c n' b':=λhx f=>hb.take hx f;have back:∀ {c:Nat} {n':Nw} {b' K:Nat},Ext B σ hp w c n' b'->Ext B σ (hp.take (nx0+e.i) n) w c n' K->K=b':=by intro c n' b' K hx hy;obtain⟨p,_,M,Q,_⟩:=hx;obtain⟨q,_,X,Y,_⟩:=hy;grind
    obtain⟨r,t,u⟩:=N (E.take hb)
     (λj e' n' hj C A=>by obtain⟨b',z⟩:=h1 (j+1) e' n' (by simpa using hj) C A;exact⟨b',keep z (h2 0 (j+1) e e' n n' b b' rfl (by grind) (by omega) hn C hm A hb z)⟩)
     (λj j' v R G T V K hj d f k1 k2 k3 k4 O W=>by obtain⟨M,J⟩:=h1 (j+1) v G (by simpa using hj) k1 k3;obtain⟨Q,U⟩:=h1 (j'+1) R T (by simpa using d) k2 k4;rw[back J O,back U W];exact h2 (j+1) (j'+1) v R G T M Q (by simpa using hj) (by simpa using d) (by omega) k1 k2 k3 k4 J U)
    refine⟨r,t,λc n' b' hx o=>u c n' b' (keep hx (o 0 e n b rfl hn hm hb)) (λj v G V hj k1 k3 O=>?_)⟩;obtain⟨M,J⟩:=h1 (j+1) v G (by simpa using hj) k1 k3;rw[back J O];exact o (j+1) v G M (by simpa using hj) k1 k3 J
end
def xpre (pres:Ah)(o:Oper):Nat:=
 o.after.toList.foldl (λs e=>bif Region.binds .any e then(s|||2^e.on)|||pres.getD e.on 0 else s) 0
def aZ :An->Ah->Ah
 | [],acc=>acc|o::os,acc=>aZ os (acc++ [xpre acc o])
def MQ (s:Nat):Az->Nat
 | .tmp t=>s|||2^t
 |_=>s
def uE (all:An)(o:Oper):Nat:=
 o.op.operands.toList.foldl MQ (match o.guard with
  |some (g,_)=>match all[g]? with
   |some p=>match p.dst with
    |some d=>2^d|none=>0
   |none=>0
  |none=>0)
structure Inf where
 o:Oper
 pre:Nat
 i:Nat
 lk:Nat
 wr:Bool
def infs (all:An)(pres:Ah):List Inf:=((all.zip pres).zipIdx).map λx=>⟨x.1.1,x.1.2,x.2,uE all x.1.1,Nat.beq (j4 x.1.1.op) 3⟩
def Qi (o:Oper)(t:Nat):Bool:=match o.dst with|some d=>Nat.beq d t|none=>false
def s1 (pres:Ah)(x:Inf):Bool:=Nat.beq x.pre (xpre pres x.o)&&x.o.after.toList.all (λe=> !(Region.binds .any e)||Nat.blt e.on x.i)
def s2 (x y:Inf):Bool:=
 bif Nat.beq x.i y.i then true else
  (match y.o.dst with
   |none=>true|some t=> !(Qi x.o t)&&(bif x.lk.testBit t then(bif Nat.blt y.i x.i then x.pre.testBit y.i else y.pre.testBit x.i)else true))&&
  (bif x.wr&&y.wr&&Nat.blt y.i x.i then x.pre.testBit y.i else true)
def stat (all:An)(pres:Ah):Bool:=
 Nat.beq pres.length all.length&&(infs all pres).all (s1 pres)&&(infs all pres).all (λx=>(infs all pres).all (s2 x))
def isW (e:Ent):Bool:=Nat.beq (j4 e.o.op) 3
def aH (es:List Ent)(e:Ent)(k:Nat):Bool:=
 es.all λy=>bif isW y then(bif Nat.blt y.i k then !(y.pre.testBit e.i)else !(e.pre.testBit y.i))else true
def own (es:List Ent)(e:Ent)(k:Nat):Bool:=
 es.all λy=>bif isW y then(Nat.blt y.i k==Nat.blt y.i e.i)else true
def oZ (P:Aw)(es:List Ent)(e:Ent)(k:Nat)(S:Hp):Bool:=
 bif own es e k then true else bif aH es e k then
  (match xrd P e.tm S e.o.op with
   |some v=>veq 1000 v e.r|none=>false)
 else true
def dyn (P:Aw)(S0:Hp)(es:List Ent):Bool:=
 es.all λe=>bif e.wt&&Nat.beq (j4 e.o.op) 1 then oZ P es e 0 S0&&es.all (λx=>bif isW x then oZ P es e (x.i+1) x.S2 else true)else true
def iC (P:Aw):bB:=λcall nt all tm hp=>
 bif stat all (aZ all [])then
  match xgo P call nt all hp.nx (all.zip (aZ all [])) 0 tm ⟨hp.m,hp.nx+all.length⟩ 0 []with
  |some out=>bif dyn P ⟨hp.m,hp.nx+all.length⟩ out.es then some (out.tm,takes hp.nx (xZ out.I) out.es out.S)else none|none=>none
 else none
theorem tQ {α:Type}(f:α->Nat->Bool)(g:Nat->α->Nat)(hg:∀s x j,(g s x).testBit j=true↔(s.testBit j=true\/f x j=true)):∀(l:List α) (s:Nat) (j:Nat),(l.foldl g s).testBit j=true↔(s.testBit j=true\/ ∃x∈l,f x j=true)
 | [],s,j=>by simp|x::l,s,j=>by rw[List.foldl_cons,tQ f g hg l (g s x) j,hg];grind
theorem KS {pres:Ah}{o:Oper}{j:Nat}(h:(xpre pres o).testBit j=true):∃e∈o.after.toList,Region.binds .any e=true/\(e.on=j\/(pres.getD e.on 0).testBit j=true):=by unfold xpre at h;rw[tQ (λ(e:Edge) j=>Region.binds .any e&&(decide (e.on=j)|| (pres.getD e.on 0).testBit j))]at h;grind;grind
theorem uF {all:An}{o:Oper}{t:Nat}:(uE all o).testBit t=true↔((∃g b p,o.guard=some (g,b)/\all[g]? =some p/\p.dst=some t)\/Operand.tmp t∈o.op.operands.toList):=by unfold uE;rw[tQ (λ(x:Az) j=>match x with| .tmp t=>decide (t=j)|_=>false)];grind;intro s x j;cases x<;>simp[MQ,Nat.testBit_or,Nat.testBit_two_pow]
def lst (L:Array Bool)(j:Nat):Prop:=L.getD j false=true
section
variable {P :Aw}{B:BS}{w0:Bc}{call:i9}{nt:Nat}{ops:Am}{pres:Ah}{nx0:Nat}{l:List Ent}{tm0 tmN:Ao}{S0 SN:Hp}{IN:Nat}
structure Fix (P:Aw)(call:i9)(nt:Nat)(ops:Am)(pres:Ah)(nx0:Nat)(l:List Ent)(tm0 tmN:Ao)(S0 SN:Hp)(IN:Nat):Prop where
 stat:stat ops.toList pres=true
 dyn:dyn P S0 l.reverse=true
 map:l.map (λe=>(e.o,e.pre))=ops.toList.zip pres
 chain:N5 P call nt ops.toList nx0 tmN SN IN [] l tm0 S0 0
variable (F :Fix P call nt ops pres nx0 l tm0 tmN S0 SN IN)
include F
theorem Fix.plen :pres.length=ops.size:=by have:=F.stat;simp only[Xe.stat,SR]at this;simp_all
def Fix.len :l.length=ops.size:=by have:=congrArg List.length F.map;simpa [F.plen]using this
variable {j:Nat}
theorem Fix.ent {o:Oper}(h:ops[j]? =some o):∃e,l[j]? =some e/\e.o=o:=by
 have hj:=(Ti.1 h).1;have b:j<l.length:=by rw[F.len];exact hj
 refine⟨l[j],by grind,?_⟩;have:=congrArg (λx=>x[j]?) F.map;grind
variable {e:Ent}
theorem Fix.at_ (h:l[j]? =some e):ops[j]? =some e.o/\e.pre=pres.getD j 0/\e.i=j:=by have hm:=congrArg (λx=>x[j]?) F.map;simp only[TU,h,TO]at hm;have:=List.getElem?_zip_eq_some.1 hm.symm;refine⟨by grind,by grind,?_⟩;have:=(F.chain.get h).1;grind
theorem Fix.inf (h:l[j]? =some e):(⟨e.o,e.pre,j,uE ops.toList e.o,Nat.beq (j4 e.o.op) 3⟩:Inf)∈infs ops.toList pres:=by have hm:=congrArg (λx=>x[j]?) F.map;refine Uy.2 ⟨((e.o,e.pre),j),?_,rfl⟩;grind
theorem Fix.p1 (h:l[j]? =some e):(∀k,e.pre.testBit k=true-> ∃b∈e.o.after.toList,Region.binds .any b=true/\(b.on=k\/(pres.getD b.on 0).testBit k=true))/\ ∀b∈e.o.after.toList,Region.binds .any b=true->b.on<j:=by have hs:=F.stat;simp only[Xe.stat,SR,Ty]at hs;have:=hs.1.2 _ (F.inf h);simp only[s1,SR,Ty,Uu,TP]at this;have he:=SY this.1;refine⟨λk hk=>KS (by grind),λb c hb=>?_⟩;rcases this.2 b c with h1|h1;grind;simp_all
variable {i:Nat}
theorem Fix.p2 {e':Ent}(hi:l[i]? =some e)(hj:l[j]? =some e')(b:i≠j):(∀t,e'.o.dst=some t->e.o.dst≠some t)/\(∀t,e'.o.dst=some t->(uE ops.toList e.o).testBit t=true->(j<i->e.pre.testBit j=true)/\(i<j->e'.pre.testBit i=true))/\(j4 e.o.op=3->j4 e'.o.op=3->j<i->e.pre.testBit j=true):=by
 have hs:=F.stat;simp only[Xe.stat,SR,Ty]at hs;have:=hs.2 _ (F.inf hi) _ (F.inf hj);simp only[s2]at this;rw[z4 b,Tl,SR]at this;obtain⟨h1,h2⟩:=this;refine⟨λt ht c=>?_,λt ht hl=>?_,λk1 k2 hlt=>?_⟩;simp only[ht,SR,TP]at h1;have:=h1.1;simp only[Qi,c]at this;simp_all
 .simp at h1;constructor;intro hlt;simp_all
  .intro hlt;have:Nat.blt j i=false:=by cases hb:Nat.blt j i;rfl;simp_all;omega
   grind
 rw[u7 k1,u7 k2,show Nat.blt j i=true from Ta hlt]at h2;grind
omit F
structure Inv (B:BS)(w0:Bc)(P:Aw)(call:i9)(nt:Nat)(ops:Am)(nx0:Nat)(l:List Ent)(tm0 tmN:Ao)(S0 SN:Hp)(IN:Nat)(σ0:Sg)(D:List Deferred)(L:Array Bool)(a:Act)(w:Bc)(σ:Sg)(k:Nat)(S:Hp)(I:Nat):Prop where
 size:L.size=ops.size
 down:∀j e,l[j]? =some e->lst L j-> ∀m,e.pre.testBit m=true->lst L m
 defers:a.defers=D
 tsz:a.tmps.size=nt
 tin:∀(j:Nat) e t,l[j]? =some e->lst L j->e.o.dst=some t->VR σ e.r (a.tmps.getD t undef)
 tout:∀t,(∀(j:Nat) e,l[j]? =some e->lst L j->e.o.dst≠some t)->VR σ ((tm0.get t).getD undef) (a.tmps.getD t undef)
 cut:∃tmk,N5 P call nt ops.toList nx0 tmN SN IN (l.take k).reverse (l.drop k) tmk S I
 norm:(k=0/\S=S0)\/ ∃e,0<k/\l[k-1]? =some e/\j4 e.o.op=3/\S=e.S2
 wr:∀(j:Nat) e,l[j]? =some e->j4 e.o.op=3->(lst L j↔j<k)
 hr:HR B w0 σ S w
 gr:Sg.gr nx0 S.nx σ0 σ
 room:nx0+ops.size<=S.nx
 none:∀(j:Nat) e n,l[j]? =some e->e.nw=some n-> ¬lst L j->σ (nx0+j)=none
 ext:∀(j:Nat) e n,l[j]? =some e->e.nw=some n->lst L j->I.testBit j=false-> ∃b,Ext B σ S w (nx0+j) n b
 apart:∀(j j':Nat) e e' n n' b b',l[j]? =some e->l[j']? =some e'->e.nw=some n->e'.nw=some n'->j≠j'->lst L j->lst L j'->I.testBit j=false->I.testBit j'=false->
  Ext B σ S w (nx0+j) n b->Ext B σ S w (nx0+j') n' b'->b≠b'
variable {L:Array Bool}
theorem C9 (hi:i<L.size):lst (L.setIfInBounds i true) j↔(lst L j\/j=i):=by unfold lst;by_cases h:j=i;simp_all;rw[getD_set_ne false (Ne.symm h)];simp[h]
theorem EU (h:L.getD i true=false):i<L.size/\ ¬lst L i:=by
 have hi:i<L.size:=by grind
 refine⟨hi,λhl=>?_⟩;unfold lst at hl;grind
theorem yW {k:Nat}{tmk:Ao}{S:Hp}{I:Nat}(hc:N5 P call nt ops.toList nx0 tmN SN IN (l.take k).reverse (l.drop k) tmk S I)(he:l[i]? =some e)(hk:k<=i)(hn:∀(j:Nat) e',l[j]? =some e'->k<=j->j<i->j4 e'.o.op≠3):e.S=S/\e.I=I:=by
 have h1:(l.drop k)[i-k]? =some e:=by grind
 refine(hc.upTo h1).still λe' hm=>?_;obtain⟨m,b⟩:=TZ.1 hm;grind
include F
theorem Fix.seen {σ0:Sg}{D:List Deferred}{a:Act}{w:Bc}{σ:Sg}{k:Nat}{S:Hp}{I:Nat}(V:Inv B w0 P call nt ops nx0 l tm0 tmN S0 SN IN σ0 D L a w σ k S I)(he:l[i]? =some e)(d:∀m,e.pre.testBit m=true->lst L m)(hi:¬lst L i){t:Nat}(ht:(uE ops.toList e.o).testBit t=true):VR σ ((e.tm.get t).getD undef) (a.tmps.getD t undef):=by
 have hp:=F.chain.upTo he;by_cases hx:∃(j:Nat) (e':Ent),j<i/\l[j]? =some e'/\e'.o.dst=some t;obtain⟨j,e',hlt,hj,b⟩:=hx;have c:=d j (((F.p2 he hj (by omega)).2.1 t b ht).1 hlt);have:=hp.tm_some (by rw[TB,Tp hlt];exact hj) b (λm r hm n f=>by rw[TB]at hm;split at hm;exact(F.p2 hm hj n).1 t b f;exact absurd hm (by simp));rw[this];exact V.tin j e' t hj c b
 .have p:∀e'∈l.take i,e'.o.dst≠some t:=by intro e' hm b;obtain⟨m,q⟩:=TZ.1 hm;grind
  rw[hp.tm_none p];refine V.tout t λj e' hj c b=>?_;by_cases h:j=i;grind;rcases Nat.lt_or_ge j i with hlt|hge;grind;exact hi (V.down j e' hj c i (((F.p2 he hj (Ne.symm h)).2.1 t b ht).2 (by omega)))
end
theorem FC {σ:Sg}{tm:Ao}{tmps:Al}(ops:Am)(o:Oper)(h:∀g b p d,o.guard=some (g,b)->ops.toList[g]? =some p->p.dst=some d->VR σ ((tm.get d).getD undef) (tmps.getD d undef)):Region.wanted o (yielded ops tmps)=v5 ops.toList tm o:=by
 unfold Region.wanted v5;cases hg:o.guard with
 |none=>rfl|some f=>
  obtain⟨j,b⟩:=f;have hy:yielded ops tmps j=eU ops.toList tm j:=by
   unfold yielded eU;rw[Array.getElem?_toList];cases hj:ops[j]? with
   |none=>rfl|some p=>
    simp;cases m:p.dst with
    |none=>rfl|some d=>
     simp;have:=h j b p d hg (by grind) m;by_cases hlt:d<tmps.size
     .have e:tmps[d]? =some tmps[d]:=by grind
      have c:tmps.getD d undef=tmps[d]:=by simp_all
      rw[c]at this;rw[e];cases hg:tm.get d with
      |none=>rw[hg,Option.getD_none]at this;generalize tmps[d]=x at this;cases this<;>grind
      |some v=>rw[hg,TL]at this;generalize tmps[d]=x at this;cases this<;>rfl
     .have e:=Array.getElem?_eq_none (Uv hlt);have c:tmps.getD d undef=undef:=by grind
      rw[c]at this;rw[e];cases hg:tm.get d with
      |none=>rfl|some v=>rw[hg,TL]at this;cases this<;>grind
  grind
section
variable {P :Aw}{B:BS}{w0:Bc}{call:i9}{nt:Nat}{ops:Am}{pres:Ah}{nx0:Nat}{l:List Ent}{tm0 tmN:Ao}{S0 SN:Hp}{IN:Nat}
variable (F :Fix P call nt ops pres nx0 l tm0 tmN S0 SN IN)
include F
variable {i:Nat}
theorem Fix.before {j:Nat}{e:Ent}(hi:i<=l.length)(h:((l.take i).reverse)[j]? =some e):j<i/\l[i-1-j]? =some e/\e.i=i-1-j:=by
 have b:(l.take i).length=i:=by grind
 have hj:j<i:=by grind
 rw[List.getElem?_reverse (by omega),b,TB,Tp (by omega)]at h;exact⟨hj,h,(F.at_ h).2.2⟩
variable {σ σ0:Sg}{D:List Deferred}{L:Array Bool}{a:Act}{w:Bc}{I k:Nat}{S:Hp}
theorem Fix.takes (V:Inv B w0 P call nt ops nx0 l tm0 tmN S0 SN IN σ0 D L a w σ k S I)(hi:i<=l.length)(m:Nat->Bool)(hm:∀j,j<i->m j=true->lst L j/\I.testBit j=false):HR B w0 σ (Xe.takes nx0 m (l.take i).reverse S) w/\(Xe.takes nx0 m (l.take i).reverse S).nx=S.nx/\ ∀(j:Nat) e n b,l[j]? =some e->e.nw=some n->lst L j->I.testBit j=false->(j<i->m j=false)->Ext B σ S w (nx0+j) n b->Ext B σ (Xe.takes nx0 m (l.take i).reverse S) w (nx0+j) n b:=by
 have H:=Oh (l.take i).reverse V.hr
  (λj e n hj hn f=>by obtain⟨h1,h2,h3⟩:=F.before hi hj;obtain⟨h4,u⟩:=hm _ (by omega:i-1-j<i) (h3▸f);rw[h3];exact V.ext _ e n h2 hn h4 u)
  (λj j' e e' n n' b b' hj d J hn h f c A C=>by obtain⟨h1,h2,h3⟩:=F.before hi hj;obtain⟨E,q,o⟩:=F.before hi d;obtain⟨h4,u⟩:=hm _ (by omega:i-1-j<i) (h3▸f);obtain⟨r,t⟩:=hm _ (by omega:i-1-j'<i) (o▸c);rw[h3]at A;rw[o]at C;exact V.apart _ _ e e' n n' b b' h2 q hn h (by omega) h4 r u t A C)
 refine⟨H.1,H.2.1,λj e n b hj hn z v G hx=>H.2.2 _ n b hx λj' e' n' b' d h c p=>?_⟩;obtain⟨E,q,o⟩:=F.before hi d;obtain⟨r,t⟩:=hm _ (by omega:i-1-j'<i) (o▸c);rw[o]at p;refine V.apart _ _ e' e n' n b' b q hj h hn ?_ r z t v p hx;grind
theorem Fix.read (V:Inv B w0 P call nt ops nx0 l tm0 tmN S0 SN IN σ0 D L a w σ k S I){e:Ent}(he:l[i]? =some e)(t:∀m,e.pre.testBit m=true->lst L m)(hi:¬lst L i)(Q:e.wt=true)(E:j4 e.o.op=1):xrd P e.tm S e.o.op=some e.r:=by
 have p:e.i=i:=(F.at_ he).2.2;have b:∀ {j:Nat} {y:Ent},l[j]? =some y->y∈l.reverse:=λh=>List.mem_reverse.2 (Td h);have q:∀ {y:Ent},y∈l.reverse-> ∃j,l[j]? =some y/\y.i=j:=λh=>by obtain⟨j,hj⟩:=TZ.1 (List.mem_reverse.1 h);exact⟨j,hj,(F.at_ hj).2.2⟩
 have f:aH l.reverse e k=true:=by
  unfold aH;rw[Ty];intro y hy;obtain⟨j,hj,K⟩:=q hy;cases d:isW y with
  |false=>rfl|true=>
   have h3:j4 y.o.op=3:=SY d;rw[K,p];by_cases hlt:j<k
   .rw[show Nat.blt j k=true from Ta hlt,Tk];have J:=(V.wr j y hj h3).2 hlt;cases hb:y.pre.testBit i with
    |false=>rfl|true=>exact absurd (V.down j y hj J i hb) hi
   .have hb:Nat.blt j k=false:=by cases hb:Nat.blt j k;rfl;simp_all;omega
    rw[hb,Tl];cases A:e.pre.testBit j with
    |false=>rfl|true=>exact absurd ((V.wr j y hj h3).1 (t j A)) hlt
 obtain⟨tm',S',I',hs,N⟩:=(F.chain.get he).2;have hr:=hs.k1 Q E;have z:oZ P l.reverse e k S=true->xrd P e.tm S e.o.op=some e.r:=by
  intro hl;unfold oZ at hl;cases u:own l.reverse e k with
  |true=>
   have O:∀(j:Nat) y,l[j]? =some y->j4 y.o.op=3->(j<k↔j<i):=by intro j y hj h3;unfold own at u;rw[Ty]at u;have:=u y (b hj);have d:isW y=true:=u7 h3;rw[d,Tk,(F.at_ hj).2.2,p]at this;constructor;intro hlt;rw[show Nat.blt j k=true from Ta hlt]at this;simp_all;intro hlt;rw[show Nat.blt j i=true from Ta hlt]at this;simp_all
   have G:k<=i:=by rcases V.norm with⟨h0,_⟩| ⟨y,h0,hy,h3,_⟩;omega;grind
   obtain⟨tmk,n⟩:=V.cut;have M:=(yW n he G (by grind)).1;grind
  |false=>rw[u,Tl,f,Tk]at hl;split at hl;rename_i v hv;rw[hv,Om _ _ _ hl];cases hl
 have C:=F.dyn;unfold Xe.dyn at C;rw[Ty]at C;have h0:=C e (b he);have c:(e.wt&&Nat.beq (j4 e.o.op) 1)=true:=by simp_all
 rw[c,Tk,SR,Ty]at h0;rcases V.norm with⟨hk,M⟩| ⟨y,hk,hy,h3,M⟩;grind;have:=h0.2 y (b hy);have d:isW y=true:=u7 h3;rw[d,Tk,(F.at_ hy).2.2,show k-1+1=k by omega]at this;grind
set_option maxHeartbeats 1000000 in
theorem Fix.step (ad:P5 P call)(V:Inv B w0 P call nt ops nx0 l tm0 tmN S0 SN IN σ0 D L a w σ k S I)(hr:i∈Region.ready .any ops L)(Q:Exit->Act->Bc->Prop)(r:Ai):wpOpIn (RF r) 0 P ops Q i (λa' w'=>∃σ' k' S' I',Inv B w0 P call nt ops nx0 l tm0 tmN S0 SN IN σ0 D (L.setIfInBounds i true) a' w' σ' k' S' I') a w:=by
 obtain⟨ck,o,ho,bb⟩:=mem_ready.1 hr;obtain⟨J,am⟩:=EU ck;obtain⟨e,he,G⟩:=F.ent ho;have cb:e.i=i:=(F.at_ he).2.2;have ax:i<l.length:=(SW.1 he).1;have aa:∀m,e.pre.testBit m=true->lst L m:=by
  intro m hm;obtain⟨ed,bh,hb,h⟩:=(F.p1 he).1 m hm;have ci:lst L ed.on:=bb ed (by rw[<-G];simpa using bh) hb;rcases h with h|h;grind
  .have hlt:=(F.p1 he).2 ed bh hb;have bm:ed.on<l.length:=by omega
   obtain⟨e',bg⟩:∃e',l[ed.on]? =some e':=⟨l[ed.on],by simp[bm]⟩
   exact V.down ed.on e' bg ci m (by rw[(F.at_ bg).2.1];exact h)
 obtain⟨tm',S',I',hs,ca⟩:=(F.chain.get he).2;simp only[UF]at hs ca;have aq:∃tmk,N5 P call nt ops.toList nx0 tmN SN IN (l.take (i+1)).reverse (l.drop (i+1)) tmk S' I':=by
  refine⟨tm',?_⟩;have:e::(l.take i).reverse=(l.take (i+1)).reverse:=by rw[List.take_succ_eq_append_getElem ax,List.reverse_append];grind
  grind
 have an:∀t,(uE ops.toList o).testBit t=true->VR σ ((e.tm.get t).getD undef) (a.tmps.getD t undef):=λt ht=>F.seen V he aa am (by rw[G];exact ht);have ao:∀x∈o.op.operands,∀v,i6 e.tm x=some v->VR σ v (a.eval x):=by
  intro x hx v hv;cases x with
  |tmp t=>simp only[i6,SQ]at hv;subst hv;exact an t (uF.2 (.inr (by simpa using hx)))|const c=>
   simp only[i6]at hv;cases hc:cst c with
   |false=>grind|true=>simp[hc]at hv;subst hv;exact dF σ hc
  |global g=>simp[i6]at hv|func f=>simp only[i6,SQ]at hv;subst hv;exact .func _ _ _ _ _ rfl (λi x y h _=>by simp at h) rfl (λi x y h _=>by simp at h)
 have ba:Region.wanted o (yielded ops a.tmps)=e.wt:=by rw[hs.wt,G];exact FC ops o λg bu p d hg hp hd=>an d (uF.2 (.inl ⟨g,bu,p,hg,hp,hd⟩))
 have be:∀(j:Nat) e' t,l[j]? =some e'->j≠i->e'.o.dst=some t->o.dst≠some t:=λj e' t hj Z ht=>by rw[<-G];exact(F.p2 he hj (Ne.symm Z)).1 t ht
 have build:∀(u:Av) (σ':Sg) (w':Bc) (k':Nat) (S2:Hp) (I2:Nat),Sg.le σ σ'->VR σ' e.r u->
   (∃tmk,N5 P call nt ops.toList nx0 tmN SN IN (l.take k').reverse (l.drop k') tmk S2 I2)->
   ((k'=0/\S2=S0)\/ ∃e,0<k'/\l[k'-1]? =some e/\j4 e.o.op=3/\S2=e.S2)->
   (∀(j:Nat) e,l[j]? =some e->j4 e.o.op=3->(lst (L.setIfInBounds i true) j↔j<k'))->
   HR B w0 σ' S2 w'->Sg.gr nx0 S2.nx σ0 σ'->nx0+ops.size<=S2.nx->
   (∀(j:Nat) e n,l[j]? =some e->e.nw=some n-> ¬lst (L.setIfInBounds i true) j->σ' (nx0+j)=none)->
   (∀(j:Nat) e n,l[j]? =some e->e.nw=some n->lst (L.setIfInBounds i true) j->I2.testBit j=false-> ∃b,Ext B σ' S2 w' (nx0+j) n b)->
   (∀(j j':Nat) e e' n n' b b',l[j]? =some e->l[j']? =some e'->e.nw=some n->e'.nw=some n'->j≠j'->lst (L.setIfInBounds i true) j->lst (L.setIfInBounds i true) j'->I2.testBit j=false->I2.testBit j'=false->
    Ext B σ' S2 w' (nx0+j) n b->Ext B σ' S2 w' (nx0+j') n' b'->b≠b')->
   Inv B w0 P call nt ops nx0 l tm0 tmN S0 SN IN σ0 D (L.setIfInBounds i true) (a.put o.dst u) w' σ' k' S2 I2:=by
  intro u σ' w' k' S2 I2 ai hv h1 h2 h3 h4 h5 h6 h7 h8 h9;have au:∀t,o.dst≠some t->(a.put o.dst u).tmps.getD t undef=a.tmps.getD t undef:=by
   intro t ht;cases hd:o.dst with
   |none=>rfl|some d=>have Z:d≠t:=λh=>ht (by rw[hd,h]);simp[Act.put,Array.getElem?_setIfInBounds_ne Z]
  have ay:∀t,o.dst=some t->(a.put o.dst u).tmps.getD t undef=u:=by
   intro t ht;have hb:C4 nt o.dst=true:=by rw[<-G];exact hs.dst
   rw[ht]at hb⊢;have hlt:t<a.tmps.size:=by rw[V.tsz];exact SX hb
   simp[Act.put,hlt]
  refine⟨by simpa using V.size,?_,by rw[lA];exact V.defers,?_,?_,?_,h1,h2,h3,h4,h5,h6,h7,h8,h9⟩;intro j e' hj A m hm;rw[C9 J]at A⊢;rcases A with A|rfl;exact .inl (V.down j e' hj A m hm);have:e'=e:=Tu (hj.symm.trans he);subst this;exact .inl (aa m hm);cases hd:o.dst<;>simp[Act.put,V.tsz];intro j e' t hj A ht;rw[C9 J]at A;by_cases E:j=i;subst E;have:e'=e:=Tu (hj.symm.trans he);subst this;rw[ay t (by rw[<-G];exact ht)];exact hv;rw[au t (be j e' t hj E ht)];exact(V.tin j e' t hj (A.resolve_right E) ht).mono ai
  .intro t bl;have cg:o.dst≠some t:=by rw[<-G];exact bl i e he ((C9 J).2 (.inr rfl))
   rw[au t cg];exact(V.tout t λj e' hj A=>bl j e' hj ((C9 J).2 (.inl A))).mono ai
 have al:∀(u:Av) (σ':Sg) (w':Bc),j4 o.op≠3->(e.nw=none)->Sg.gr S.nx S.nx σ σ'->VR σ' e.r u->HR (rest B σ S w) w σ' S w'->
   ∃σ' k' S' I',Inv B w0 P call nt ops nx0 l tm0 tmN S0 SN IN σ0 D (L.setIfInBounds i true) (a.put o.dst u) w' σ' k' S' I':=by
  intro u σ' w' hk R O hv bi;refine⟨σ',k,S,I,build u σ' w' k S I O.le hv V.cut V.norm (λj e' hj h3=>?_) (V.hr.back bi) (VA V.gr O) V.room (λj e' n hj hn A=>?_) (λj e' n hj hn A hI=>?_) (λj j' e1 e2 n1 n2 b1 b2 hj T M N Z X Y U W x1 x2=>?_)⟩;rw[C9 J,<-V.wr j e' hj h3];constructor;rintro (h|rfl);exact h;have:e'=e:=Tu (hj.symm.trans he);subst this;exact absurd h3 (by rw[G];exact hk);exact .inl;have bk:¬lst L j:=λh=>A ((C9 J).2 (.inl h));have cf:j<l.length:=(SW.1 hj).1;rw[O.low _ (by have:=V.room;have:=F.len;omega)];exact V.none j e' n hj hn bk
  .have E:j≠i:=by rintro rfl;rw[Tu (hj.symm.trans he),R]at hn;cases hn
   rw[C9 J]at A;obtain⟨b,hb⟩:=V.ext j e' n hj hn (A.resolve_right E) hI;exact⟨b,hb.step bi O.le⟩
  .have E:j≠i:=by rintro rfl;rw[Tu (hj.symm.trans he),R]at M;cases M
   have K:j'≠i:=by rintro rfl;rw[Tu (T.symm.trans he),R]at N;cases N
   rw[C9 J]at X Y;obtain⟨c1,y1⟩:=V.ext j e1 n1 hj M (X.resolve_right E) U;obtain⟨c2,y2⟩:=V.ext j' e2 n2 T N (Y.resolve_right K) W;have ab:∀ {id:Nat} {n:Nw} {b c:Nat},Ext B σ S w id n c->Ext B σ' S w' id n b->b=c:=by intro id n b c hx hy;obtain⟨p,_,p1,p2,_⟩:=hx;obtain⟨q,_,q1,q2,_⟩:=hy;have:=(O.le _ _ p1).symm.trans q1;have:p=q:=Tu this;rw[<-p2,<-q2,this]
   rw[ab y1 x1,ab y2 x2];exact V.apart j j' e1 e2 n1 n2 c1 c2 hj T M N Z (X.resolve_right E) (Y.resolve_right K) U W y1 y2
 have bt:j4 o.op=3->e.S=S/\e.I=I/\k<=i/\ ∀(j:Nat) e',l[j]? =some e'->j4 e'.o.op=3->(lst (L.setIfInBounds i true) j↔j<i+1):=by
  intro h3;have ac:j4 e.o.op=3:=by rw[G];exact h3
  have ap:k<=i:=by rcases Nat.lt_or_ge i k with h|h;exact absurd ((V.wr i e he ac).2 h) am;exact h
  obtain⟨tmk,bc⟩:=V.cut;have hlt:∀(j:Nat) e',l[j]? =some e'->j4 e'.o.op=3->j<i->lst L j:=λj e' hj k3 hlt=>aa j ((F.p2 he hj (by omega)).2.2 ac k3 hlt);have bq:=yW bc he ap (λj e' hj h1 h2 k3=>by have:=(V.wr j e' hj k3).1 (hlt j e' hj k3 h2);omega);refine⟨bq.1,bq.2,ap,λj e' hj k3=>?_⟩;rw[C9 J];constructor;rintro (h|rfl);rcases Nat.lt_or_ge i j with h'|h';exact absurd (V.down j e' hj h i ((F.p2 hj he (by omega)).2.2 k3 ac h')) am;omega;omega;intro h;by_cases E:j=i;exact .inr E;exact .inl (hlt j e' hj k3 (by omega))
 unfold wpOpIn;simp only[ho];rw[ba];cases ak:e.wt with
 |false=>
  rw[Tn (by simp)];refine⟨λ_ _=>trivial,?_⟩;obtain⟨bn,R⟩:=hs.un ak;by_cases h3:j4 o.op=3
  .obtain⟨e1,e2,ap,az⟩:=bt h3;obtain⟨l1,l2⟩:=hs.low (.inl ak);have ac:j4 e.o.op=3:=by rw[G];exact h3
   refine⟨σ,i+1,S',I',build undef σ w (i+1) S' I' (Sg.le_refl σ) (by rw[bn];exact VR.undef σ) aq (.inr ⟨e,by omega,he,ac,hs.S2.symm⟩) az
    (by rw[l1,e1];exact V.hr) (by rw[l1,e1];exact V.gr) (by rw[l1,e1];exact V.room) (λj e' n hj hn A=>?_) (λj e' n hj hn A hI=>?_) (λj j' f1 f2 n1 n2 b1 b2 hj T M N Z X Y U W x1 x2=>?_)⟩
   exact V.none j e' n hj hn (λh=>A ((C9 J).2 (.inl h)))
   .have E:j≠i:=by rintro rfl;rw[Tu (hj.symm.trans he),R]at hn;cases hn
    rw[C9 J]at A;rw[l1,e1];rw[l2,e2]at hI;exact V.ext j e' n hj hn (A.resolve_right E) hI
   .have E:j≠i:=by rintro rfl;rw[Tu (hj.symm.trans he),R]at M;cases M
    have K:j'≠i:=by rintro rfl;rw[Tu (T.symm.trans he),R]at N;cases N
    rw[C9 J]at X Y;rw[l1,e1]at x1 x2;rw[l2,e2]at U W;exact V.apart j j' f1 f2 n1 n2 b1 b2 hj T M N Z (X.resolve_right E) (Y.resolve_right K) U W x1 x2
  exact al undef σ w h3 R (Vz _ σ) (by rw[bn];exact VR.undef σ) V.hr.max
 |true=>
  rw[Tp rfl];by_cases h0:j4 o.op=0;have hx:=hs.k0 ak (by rw[G];exact h0) S;rw[G]at hx;exact jG ad hx ao V.hr.max _ Q (λσ' u w' O hv aj=>al u σ' w' (by omega) (hs.nw (by rw[G];omega)) O hv aj) r;by_cases h1:j4 o.op=1;have hx:=PJ (call:=call) (by rw[G];exact h1) (F.read V he aa am ak (by rw[G];exact h1));rw[G]at hx;exact jG ad hx ao V.hr.max _ Q (λσ' u w' O hv aj=>al u σ' w' (by omega) (hs.nw (by rw[G];omega)) O hv aj) r;by_cases h2:j4 o.op=2
  .obtain⟨n,hx,cj,R⟩:=hs.k2 ak (by rw[G];exact h2);rw [G] at hx;obtain ⟨sm,cd,bj,ob,siz,z,bw,bp⟩:=AY (σ:=σ) hx ao;have aw : σ (nx0+i)=none:=V.none i e n he R am;have hlt : nx0+i < S.nx:=by have:=V.room; have:=F.len; omega
   obtain⟨X,Y⟩:=V.hr.lay aw hlt n (p:=⟨w.heap.size,0,siz,z⟩) rfl (bw _);have ai:=VB (σ:=σ) (i:=nx0+i) ⟨w.heap.size,0,siz,z⟩ aw;refine eI (λc hc=>by rw[hc]at h2;cases h2) ?_;unfold Oper.wp;rw[cd,Tx,bp w,Tt,TC,UM];refine⟨_,k,S,I,build _ _ _ k S I ai ?_ V.cut V.norm (λj e' hj h3=>?_) X ⟨Sg.le_trans V.gr.le ai,λj hj=>(Vw _ _ _ (by omega)).trans (V.gr.low j hj),V.gr.nx⟩ V.room (λj e' n' hj hn A=>?_) (λj e' n' hj hn A hI=>?_)
    (λj j' f1 f2 n1 n2 b1 b2 hj T M N Z ae ah U W x1 x2=>?_)⟩
   rw[cj,cb];exact Nw.val_VR bj _ _ _ _;rw[C9 J,<-V.wr j e' hj h3];constructor;rintro (h|rfl);exact h;have:e'=e:=Tu (hj.symm.trans he);subst this;rw[G]at h3;omega;exact .inl
   .have E:j≠i:=by rintro rfl;exact A ((C9 J).2 (.inr rfl))
    rw[Vw _ _ _ (by omega)];exact V.none j e' n' hj hn (λh=>A ((C9 J).2 (.inl h)))
   by_cases E:j=i;subst E;have:e'=e:=Tu (hj.symm.trans he);subst this;have:n'=n:=Tu (hn.symm.trans R);subst this;exact⟨_,Y⟩;rw[C9 J]at A;obtain⟨b,hb⟩:=V.ext j e' n' hj hn (A.resolve_right E) hI;exact⟨b,hb.lay V.hr aw _ _⟩
   ·
    have old:∀(j:Nat) (f:Ent) (n':Nw) (b:Nat),l[j]? =some f->f.nw=some n'->j≠i->lst (L.setIfInBounds i true) j->I.testBit j=false->
      Ext B (σ.ext (nx0+i) ⟨w.heap.size,0,siz,z⟩) S (w.alloc ob) (nx0+j) n' b->Ext B σ S w (nx0+j) n' b/\b<w.heap.size:=by
     intro j f n' b hj hn E A hI hx;rw[C9 J]at A;obtain⟨c,hc⟩:=V.ext j f n' hj hn (A.resolve_right E) hI;have bz:=hc;obtain⟨p,C,p1,p2,p5,_⟩:=hc;obtain⟨q,_,q1,q2,_⟩:=hx;have:=(ai _ _ p1).symm.trans q1;have:p=q:=Tu this;have bv:b=c:=by rw[<-p2,<-q2,this]
     subst bv;exact⟨bz,(Ti.1 p5).1⟩
    have new:∀(n':Nw) (b:Nat),Ext B (σ.ext (nx0+i) ⟨w.heap.size,0,siz,z⟩) S (w.alloc ob) (nx0+i) n' b->b=w.heap.size:=by intro n' b hx;obtain⟨q,_,q1,q2,_⟩:=hx;rw[Vy]at q1;rw[<-q2,<-Tu q1]
    by_cases E:j=i;subst E;have ce:j'≠j:=Ne.symm Z;have:=(old j' f2 n2 b2 T N ce ah W x2).2;rw[new n1 b1 x1];omega;by_cases K:j'=i;subst K;have:=(old j f1 n1 b1 hj M E ae U x1).2;rw[new n2 b2 x2];omega;have o1:=(old j f1 n1 b1 hj M E ae U x1).1;have o2:=(old j' f2 n2 b2 T N K ah W x2).1;rw[C9 J]at ae ah;exact V.apart j j' f1 f2 n1 n2 b1 b2 hj T M N Z (ae.resolve_right E) (ah.resolve_right K) U W o1 o2
  ·
   have h3:j4 o.op=3:=by have:=uW o.op;omega
   have ac:j4 e.o.op=3:=by rw[G];exact h3
   obtain⟨e1,e2,ap,az⟩:=bt h3;obtain⟨hx,av⟩:=hs.k3 ak (by omega);rw[G,e1,e2]at hx;rw[e2]at av;obtain⟨T1,T2,T3⟩:=F.takes V (i:=i) (by omega) (wE e.pre I) (λj hj hm=>by simp only[wE,SR,TP]at hm;exact⟨aa j hm.1,hm.2⟩);refine jG ad hx ao T1.max _ Q (λσ' u w' O hv aj=>?_) r;rw[T2]at O;have keep:∀(j:Nat) (f:Ent) (n:Nw),l[j]? =some f->f.nw=some n->lst L j->I'.testBit j=false-> ∃b,Ext B σ S w (nx0+j) n b/\Ext B σ' S' w' (nx0+j) n b:=by intro j f n hj hn A hI;rw[av,Nat.testBit_or,UV]at hI;obtain⟨b,hb⟩:=V.ext j f n hj hn A hI.1;exact⟨b,hb,(T3 j f n b hj hn A hI.1 (λ_=>by simp[wE,hI.2]) hb).step aj O.le⟩
   have R:e.nw=none:=hs.nw (by omega);refine⟨σ',i+1,S',I',build u σ' w' (i+1) S' I' O.le hv aq (.inr ⟨e,by omega,he,ac,hs.S2.symm⟩) az (T1.back aj) (VA V.gr O) (by have:=V.room;have:=O.nx;omega) (λj e' n hj hn A=>?_) (λj e' n hj hn A hI=>?_)
    (λj j' f1 f2 n1 n2 b1 b2 hj T M N Z X Y U W x1 x2=>?_)⟩
   have cf:j<l.length:=(SW.1 hj).1;rw[O.low _ (by have:=V.room;have:=F.len;omega)];exact V.none j e' n hj hn (λh=>A ((C9 J).2 (.inl h)))
   .have E:j≠i:=by rintro rfl;rw[Tu (hj.symm.trans he),R]at hn;cases hn
    rw[C9 J]at A;obtain⟨b,_,hb⟩:=keep j e' n hj hn (A.resolve_right E) hI;exact⟨b,hb⟩
   .have E:j≠i:=by rintro rfl;rw[Tu (hj.symm.trans he),R]at M;cases M
    have K:j'≠i:=by rintro rfl;rw[Tu (T.symm.trans he),R]at N;cases N
    rw[C9 J]at X Y;obtain⟨c1,y1,z1⟩:=keep j f1 n1 hj M (X.resolve_right E) U;obtain⟨c2,y2,z2⟩:=keep j' f2 n2 T N (Y.resolve_right K) W;have ab:∀ {id:Nat} {n:Nw} {b c:Nat},Ext B σ' S' w' id n c->Ext B σ' S' w' id n b->b=c:=by intro id n b c hx hy;obtain⟨p,_,p1,p2,_⟩:=hx;obtain⟨q,_,q1,q2,_⟩:=hy;have:p=q:=Tu (p1.symm.trans q1);rw[<-p2,<-q2,this]
    rw[ab z1 x1,ab z2 x2];rw[av,Nat.testBit_or,UV]at U W;exact V.apart j j' f1 f2 n1 n2 c1 c2 hj T M N Z (X.resolve_right E) (Y.resolve_right K) U.1 W.1 y1 y2
theorem Fix.all (f:L.size=ops.size)(hr:Region.ready .any ops L=[]):∀j,j<ops.size->lst L j:=by
 intro j;induction j using Nat.strongRecOn with
 |_ j h=>
  intro hj;by_cases hl:lst L j;grind
  .exfalso;have hm:j∈Region.ready .any ops L:=by refine mem_ready.2 ⟨?_,ops[j],by grind,λb c hb=>?_⟩;unfold lst at hl;grind;obtain⟨e,he,d⟩:=F.ent (o:=ops[j]) (j:=j) (by simp);have:=(F.p1 he).2 b (by grind) hb;exact h b.on this (by omega)
   grind
theorem Fix.ends (V:Inv B w0 P call nt ops nx0 l tm0 tmN S0 SN IN σ0 D L a w σ k S I)(f:∀j,j<ops.size->lst L j):xT nx0 B w0 σ0 nt .normal tmN (Xe.takes nx0 (xZ IN) l.reverse SN) D .normal a w:=by
 obtain⟨tmk,n⟩:=V.cut;have b:∀ {j:Nat} {e:Ent},l[j]? =some e->lst L j:=λh=>f _ (by have:=(SW.1 h).1;have:=F.len;omega);have d:=n.still (λe hm=>by obtain⟨m,c⟩:=TZ.1 hm;rw[TI]at c;intro h3;have:=(V.wr _ e c h3).1 (b c);omega);obtain⟨q,r,_⟩:=F.takes V (Tq _) (xZ IN) (λj hj hm=>by
  have:l[j]? =some l[j]:=by grind
  refine⟨b this,?_⟩;rw[<-d.2];simpa [xZ]using hm)
 rw[List.take_length]at q r;rw[<-d.1]at q r;refine⟨rfl,V.defers,σ,by rw[r,d.1];exact V.gr,⟨V.tsz,λt=>?_⟩,q⟩;by_cases hx:∃(j:Nat) (e:Ent),l[j]? =some e/\e.o.dst=some t;obtain⟨j,e,hj,p⟩:=hx;rw[F.chain.tm_some hj p (λm z hm v u=>(F.p2 hm hj v).1 t p u)];exact V.tin j e t hj (b hj) p;rw[F.chain.tm_none (λe he p=>by obtain⟨m,hm⟩:=TZ.1 he;exact hx ⟨m,e,hm,p⟩)];exact V.tout t (by grind)
omit F
def Ap (L:Array Bool):Nat:=(L.toList.filter (λb=> !b)).length
theorem tO :∀(l:List Bool) (i:Nat),l[i]? =some false->((l.set i true).filter (λb=> !b)).length+1=(l.filter (λb=> !b)).length
 | [],i,h=>by grind|b::l,0,h=>by grind|b::l,i+1,h=>by have:=tO l i (by grind);grind
theorem Eg (h:L.getD i true=false):Ap (L.setIfInBounds i true)+1=Ap L:=by have hi:=(EU h).1;unfold Ap;rw[Array.toList_setIfInBounds];refine tO L.toList i ?_;simp_all
include F
theorem Fix.any (c:P5 P call)(r:Ai):∀(b:Nat) (L:Array Bool) (a:Act) (w:Bc) (σ:Sg) (k:Nat) (S:Hp) (I:Nat),Ap L=b->Inv B w0 P call nt ops nx0 l tm0 tmN S0 SN IN σ0 D L a w σ k S I->wpAnyIn (RF r) 0 P .any ops (xT nx0 B w0 σ0 nt .normal tmN (Xe.takes nx0 (xZ IN) l.reverse SN) D) b L a w:=by
 intro b;induction b with
 |zero=>
  intro L a w σ k S I hf V;have hr:Region.ready .any ops L=[]:=by
   cases f:Region.ready .any ops L with
   |nil=>rfl|cons i r=>
    have:i∈Region.ready .any ops L:=by grind
    have:=Eg (mem_ready.1 this).1;omega
  exact⟨hr,F.ends V (F.all V.size hr)⟩
 |succ b m=>intro L a w σ k S I hf V;refine⟨λhr=>F.ends V (F.all V.size hr),λi hi=>?_⟩;have d:=Eg (mem_ready.1 hi).1;refine wpOpIn_mono (λh w' hV=>?_) (F.step c V hi _ r);grind
end
variable {P:Aw}
def KH {call:i9}(d:P5 P call){nt:Nat}{ops:Am}{tm:Ao}{hp:Hp}{tm':Ao}{hp':Hp}(h:iC P call nt ops.toList tm hp=some (tm',hp')){B:BS}{w0:Bc}{σ:Sg}{a:Act}{w:Bc}(ht:TR σ nt tm a.tmps)(u:HR B w0 σ hp w)(r:Ai):wpAnyIn (RF r) 0 P .any ops (xT hp.nx B w0 σ nt .normal tm' hp' a.defers) ops.size (Array.replicate ops.size false) a {w with drawn:=w.drawn+1}:=by
 unfold iC at h;cases p:stat ops.toList (aZ ops.toList [])with
 |false=>rw[p]at h;cases h
 |true=>
  rw[p,Tk]at h;split at h
  .rename_i out q;cases f:dyn P ⟨hp.m,hp.nx+ops.toList.length⟩ out.es with
   |false=>rw[f]at h;cases h
   |true=>
    rw[f,Tk]at h;simp only[SQ,SU]at h;obtain⟨rfl,rfl⟩:=h;obtain⟨l,h1,h2,h3⟩:=KJ _ 0 tm _ 0 [] out q rfl;rw[UF]at h1;have F:Fix P call nt ops (aZ ops.toList []) hp.nx l tm out.tm ⟨hp.m,hp.nx+ops.toList.length⟩ out.S out.I:=⟨p,by rw[<-h1];exact f,h2,h3⟩
    rw[h1];have o:Ap (Array.replicate ops.size false)=ops.size:=by simp[Ap]
    refine F.any (B:=B) (w0:=w0) (σ0:=σ) d r ops.size _ a _ σ 0 ⟨hp.m,hp.nx+ops.toList.length⟩ 0 o ?_;have c:∀j,¬lst (Array.replicate ops.size false) j:=by intro j hl;unfold lst at hl;by_cases hj:j<ops.size<;>simp[hj]at hl
    have hr:HR B w0 σ ⟨hp.m,hp.nx+ops.toList.length⟩ w.drew:=
     u.drew.sub (Nat.le_add_right _ _) λi b hg=>hg
    refine⟨by simp,λj e hj hl=>absurd hl (c j),rfl,ht.size,λj e t hj hl=>absurd hl (c j),λt _=>ht.at_ t,⟨tm,by simpa using h3⟩,.inl ⟨rfl,rfl⟩,λj e hj _=>⟨λh=>absurd h (c j),λh=>by omega⟩,
     hr,⟨Sg.le_refl σ,λ_ _=>rfl,by simp⟩,by simp,λj e n hj hn _=>?_,λj e n hj hn hl=>absurd hl (c j),λj j' e e' n n' b b' hj v hn z A hl=>absurd hl (c j)⟩
    exact u.fresh _ (by omega)
  cases h
def Ou (hm:P.follows .mixedOrders=true):kG P (iC P):=
 λ_ b _ _ _ _ _ _ _ h _ _ _ _ _ ht c r=>wpIn_region_any hm (KH b h ht c r)
end Go.Xe
namespace Go.Xe
open Go.RowKit
def QF (ops:Am)(l:Ah):Prop:=
 ∀l1 i l2,l=l1++i::l2-> ∃o,ops[i]? =some o/\ ∀e∈o.after,Region.binds .any e=true->e.on∈l1
structure sX (ops:Am)(l:Ah):Prop where
 nodup:l.Nodup
 mem:∀i,i∈l↔i<ops.size
 behind:QF ops l
def nU (ops:Am)(x y:Nat)(g:Ground):Am:=ops.modify y λo=> {o with after:=o.after.push ⟨x,g⟩}
variable {ops:Am}{x y:Nat}{g:Ground}
theorem CO {i:Nat}:(nU ops x y g)[i]? =if y=i then(ops[i]?).map λo=> {o with after:=o.after.push ⟨x,g⟩}else ops[i]? :=by unfold nU;grind
theorem sX.edge {d f:Ah}(h:sX ops (d++y::f))(hx:x∈d):sX (nU ops x y g) (d++y::f):=by
 refine⟨h.nodup,λi=>by rw[h.mem i];simp[nU],λk1 i k2 he=>?_⟩;obtain⟨o,p,u⟩:=h.behind k1 i k2 he;rw[CO];by_cases hi:y=i
 .subst hi;rw[Tp rfl,p];refine⟨_,rfl,λe b hb=>?_⟩;rcases Array.mem_push.1 b with b|rfl;grind
  .have q:y∉d:=λhc=>by have:=h.nodup;grind
   have r:y∉k1:=λhc=>by have:=h.nodup;grind
   have t:d=k1:=by
    rcases List.append_eq_append_iff.1 he with⟨c,m,n⟩| ⟨c,m,n⟩
    .cases c with
     |nil=>grind|cons c0 c=>grind
    .cases c with
     |nil=>grind|cons c0 c=>grind
   grind
 grind
theorem sX.first {l:Ah}(h:sX ops l)(hx:x<ops.size)(hy:y<ops.size)(f:x≠y):(∃b d,l=b++y::d/\x∈b)\/(∃b d,l=b++x::d/\y∈b):=by obtain⟨b,d,e⟩:=List.append_of_mem ((h.mem y).2 hy);have c:=(h.mem x).2 hx;rw[e]at c;rcases TG.1 c with h1|h1;grind;rcases TH.1 h1 with h1|h1;grind;obtain⟨m1,n,m⟩:=List.append_of_mem h1;grind
structure Alike (ops ops':Am)(ρ:Nat->Nat):Prop where
 get:∀(i:Nat) o,ops[i]? =some o-> ∃o',ops'[ρ i]? =some o'/\o'.op=o.op/\o'.dst=o.dst/\o'.type=o.type/\o'.guard=o.guard.map (λg=>(ρ g.1,g.2))
 yielded:∀tmps (i:Nat) o g,ops[i]? =some o->o.guard=some g->yielded ops' tmps (ρ g.1)=yielded ops tmps g.1
section
variable {P :Aw}{B:BS}{w0:Bc}
end
section
variable {P :Aw}{call:i9}{nt nx0:Nat}
end
section
variable {P :Aw}{call:i9}{nt nx0:Nat}
end
def v6 (P:Aw):bB:=λcall nt all tm hp=>iC P call nt all tm hp
variable {P:Aw}
def KG (hm:P.follows .mixedOrders=true):kG P (v6 P):=by intro call b nt ops id tm hp tm' hp' h B w0 σ a w ht c r;exact Ou hm call b nt ops id tm hp tm' hp' h B w0 σ a w ht c r
def C6 (P:Aw)(ov:Aa)(n:Nat):i9:=bZ P (v6 P) ov n
def Ig (hm:P.follows .mixedOrders=true){ov:Aa}(b:∀g t,ov g=some t->kI P g t)(n:Nat):P5 P (C6 P ov n):=Ds (KG hm) b n
end Go.Xe
namespace Go.Xe
open Go.RowKit
def yes (r:Bb (Av×Hp)):Bool:=
 match r with
 |some (.bool b,_)=>b|_=>false
def Hp.empty :Hp:=⟨.e,0⟩
def Sg.none :Sg:=⟨λ_ _=>Option.none⟩
def HR.start (w:Bc):HR (BS.below w) w Sg.none Hp.empty w:=
 ⟨rfl,rfl,rfl,Tq _,λ_ (h:_<_)=>h,λ_ _=>rfl,λ_ _ _=>rfl,λi b r h=>by simp[Hp.empty,VE]at h,λi j b b' r s p q h=>by simp[Hp.empty,VE]at h,λi b h=>by simp[Hp.empty,VE]at h⟩
def HR.toBelow {σ:Sg}{hp:Hp}{w w':Bc}(h:HR (BS.below w) w σ hp w'):Below w.heap.size w w':=
 ⟨h.os,h.tape,h.output,h.size,h.kept⟩
def noOv :Aa:=λ_=>none
variable {P:Aw}
def Pe :∀g t,noOv g=some t->kI P g t:=λ_ _ h=>by cases h
def By (P:Aw)(g:Ay):Func:=(P.funcs[g]?).getD {name:= "",origin:= "",params:= #[],resultTypes:= #[],nfree:=0,ntmps:=0,results:= #[],body:=none,norace:=false,tmpNames:= #[]}
variable {g:Ay}
theorem kI.of {t:Ax}(r:Ax)(h0:(P.funcs[g]?).isSome=true)(h1:((By P g).name== "runtime.NumGoroutine")=false)(h2:(By P g).body.isNone=true)(h3:Extern.findNext (By P g)=none)(h4:Extern.find (By P g)=some (Extern.SlicesOverlaps.overlaps #[t,t] #[r]))(b:t≠kD:=by decide):kI P g t:=by refine .inr ⟨b,By P g,r,?_,h1,h2,h3,h4⟩;unfold By;grind
def BZ (g0:Ay)(t0:Ax)(rest:Aa):Aa:=λg=>bif Nat.beq g g0 then some t0 else rest g
theorem Pi {g0:Ay}{t0:Ax}{rest:Aa}(h:kI P g0 t0)(hr:∀g t,rest g=some t->kI P g t):∀g t,BZ g0 t0 rest g=some t->kI P g t:=by
 intro g t hg;unfold BZ at hg;cases hb:Nat.beq g g0 with
 |true=>simp_all|false=>grind
def Pj (h:FJ P g):kI P g kD:= .inl ⟨rfl,h⟩
end Go.Xe
namespace Go.Xe
open Go.RowKit
section
open Go.ChangeShapes
variable {H :Type}{enc:Ax×Av->H}{P:Aw}{w:Bc}{base:Nat}{spare:Nat->Bool}{held:Bool}
