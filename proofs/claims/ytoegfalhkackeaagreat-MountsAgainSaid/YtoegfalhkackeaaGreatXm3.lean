/- The executor, parts S, 13, 14, 15, D, 16, 17.
  Conditions: none. -/
import Derived.Test.YtoegfalhkackeaaGreatXm2
import Derived.OrdersIn
set_option linter.all false
noncomputable section
namespace Go.Xe
open Go.RowKit
def clEq (v1 v2:Af):Bool:= @decide (v1=v2) (Classical.propDecidable _)
def OR {d f:Af}(h:clEq d f=true):d=f:= @UM _ (Classical.propDecidable _) h
def Js (v:Af):clEq v v=true:= @decide_eq_true _ (Classical.propDecidable _) rfl
def noR :Av->Bool
 | .bool _| .int _ _| .complex _ _ _| .string _| .slice _ _ _| .pointer none| .pointer (some ⟨_,_,none⟩)| .map _=>true
 |_=>false
def VR.noR {σ σ':Sg}(hs:∀i p,σ i=some p->σ' i=some p){v u:Av}(h:VR σ v u)(hn:noR v=true):VR σ' v u:=by
 cases h<;>first
  |exact .bool _|exact .int _ _|exact .string _|exact .nilp|exact .nils _ _|exact .vague _ _|exact .nilm
  | (rename_i f lo hi n h1 h2;exact .ival f lo hi n h1 h2)
  | (rename_i i o p h;exact .ptr i o p (hs _ _ h))
  | (rename_i i o p l c c' h hc hl;exact .slice i o p l c c' (hs _ _ h) hc hl)
  | (rename_i i p h;exact .map i p (hs _ _ h))
  |cases hn
def Cx (R:Af->Hp->Bb (Av×Hp))(args:Af)(hp:Hp):Bb (Av×Hp):=
 match args with
 | [.slice (some ⟨i,o0,none⟩) l c,x,.slice (some ⟨j,o,none⟩) m cm]=>
  bif Nat.ble unk c && Nat.beq (F5 c) 0 && !(Nat.beq i j) && Nat.ble (l + m) 67108864 then
   match hp.m.get i,hp.m.get j with
   |some bi,some bj=>
    match R [.slice (some ⟨i,o0,none⟩) l (d9 (l+m) 0),x,.slice (some ⟨j,o,none⟩) m cm] ⟨(T.set .e i (some bi)).set j (some bj),hp.nx⟩,
      R [.slice (some ⟨i,o0,none⟩) l (d9 l (l+m)),x,.slice (some ⟨j,o,none⟩) m cm] ⟨(T.set .e i (some bi)).set j (some bj),hp.nx⟩with
    |some (.slice (some ⟨a,oa,none⟩) la ca,ha),some (.slice (some ⟨b,ob,none⟩) lb cb,hb)=>
     bif Nat.beq la lb&&Nat.ble unk ca&&Nat.ble unk cb then
      match ha.m.get a,hb.m.get b with
      |some (.cells c1 k1 e1 z1),some (.cells c2 k2 e2 z2)=>
       bif Nat.ble (oa+la*z1) k1&&Nat.ble (ob+la*z1) k2&&Nat.beq e1 e2&&Nat.beq z1 z2 then
        match j9 c1 oa (la*z1),j9 c2 ob (la*z1)with
        | some v1, some v2 => bif (oT (veq 100) v1 v2 || clEq v1 v2) && v1.all noR then
          some (.slice (some ⟨Nat.max ha.nx hb.nx,0,none⟩) la (d9 la 0),
           ⟨((hp.m.set i none).set j none).set (Nat.max ha.nx hb.nx) (some (.cells (fill .e 0 v1) (la*z1) e1 z1)),Nat.max ha.nx hb.nx+1⟩)
         else none
        |_,_=>none
       else none
      |_,_=>none
     else none
    |_,_=>none
   |_,_=>none
  else none
 |_=>none
def K2 (P:Aw)(runD:Ay->Af->Hp->Bb (Av×Hp)):List Df->Hp->Bb Hp
 | [],hp=>some hp| .mark r::ds,hp=>match hp.m.get r with
  |some .dfr=>K2 P runD ds {hp with m:=hp.m.set r none}|_=>none
 | .call g args cap::ds,hp=>match P.funcs[g]? with
  | some fn => bif gA fn then
    match runD g (args++cap) hp with
    |some (_,hp')=>K2 P runD ds hp'|none=>none
   else none
  |none=>none
def qH (P:Aw)(fn:Func)(runD:Ay->Af->Hp->Bb (Av×Hp))(tm:Ao)(hp:Hp)(ds:List Df):Bb (Av×Hp):=
 match K2 P runD ds hp with
 |some hp'=>match I9 P tm hp' fn.results.toList with
  |some vs=>some (fS vs,hp')|none=>none
 |none=>none
def U9 (P:Aw)(dr:bX)(call:i8)(runD:Ay->Af->Hp->Bb (Av×Hp))(n:Nat)(f:Ay)(args:Af)(hp:Hp):Bb (Av×Hp):=
 match P.funcs[f]? with
 |some fn=>match fn.body with
  |some c=>match l7 P dr call (args.length+(fn.ntmps-args.length)) none n c (fill .e 0 args) hp []with
   |some (.mk .normal tm' hp' ds)=>qH P fn runD tm' hp' ds|some (.mk .ret tm' hp' ds)=>qH P fn runD tm' hp' ds|_=>none
  |none=>none
 |none=>none
def Q7 (P:Aw)(dr:bX)(call:i8)(n:Nat)(f:Ay)(args:Af)(hp:Hp):Bb (Av×Hp):=
 match P.funcs[f]? with
 |some fn=>match fn.body with
  |some c=>match l7 P dr call (args.length+(fn.ntmps-args.length)) none n c (fill .e 0 args) hp []with
   |some (.mk .normal tm' hp' [])=>qH P fn (fun _ _ _=>none) tm' hp' []|some (.mk .ret tm' hp' [])=>qH P fn (fun _ _ _=>none) tm' hp' []|_=>none
  |none=>none
 |none=>none
def iA (tm:Ao):List Tmp->Af->Ao
 |t::ts,v::vs=>iA (tm.set t (some v)) ts vs|_,_=>tm
def xI (n:Nat):List Tmp->Bool
 | []=>true|t::ts=>Nat.blt t n&&xI n ts
def qN (P:Aw)(dr:bX)(call:i8)(m:Nat)(i:Nat)(args:Af)(hp:Hp):Bb (Av×Hp):=
 match hp.m.get i with
 |some (.loop .ready _ nt tms ps assign body _)=>
  bif Nat.beq ps.toList.length args.length&&xI nt ps.toList then
   match l7 P dr call nt (some i) m assign (iA tms ps.toList args) hp []with
   |some (.mk .normal tm1 hp1 ds1)=>match hp1.m.get i with
    |some (.loop .ready p1 n1 t1 q1 a1 b1 d1)=>
     match l7 P dr call nt (some i) m body tm1 {hp1 with m:=hp1.m.set i (some (.loop .busy p1 n1 t1 q1 a1 b1 d1))} ds1 with
     |some (.mk e _ hp2 _)=>match hp2.m.get i with
      |some (.loop _ _ n2 t2 q2 a2 b2 d2)=>match e with
       | .normal=>some (.bool true,{hp2 with m:=hp2.m.set i (some (.loop .ready none n2 t2 q2 a2 b2 d2))})| .ret=>some (.bool false,{hp2 with m:=hp2.m.set i (some (.loop .done (some .ret) n2 t2 q2 a2 b2 d2))})| .exit id=>some (.bool false,{hp2 with m:=hp2.m.set i (some (.loop .done (some (.exit id)) n2 t2 q2 a2 b2 d2))})|_=>none
      |_=>none
     |none=>none
    |_=>none
   |_=>none
  else none
 |_=>none
def fU (R:Af->Hp->Bb (Av×Hp))(args:Af)(hp:Hp):Bb (Av×Hp):=
 match R args hp with
 |some r=>some r|none=>Cx R args hp
def wkA (hp:Hp):Af->Af
 | .slice (some ⟨i, o, none⟩) l c :: xs => bif Nat.ble c 67108864 then
   match hp.m.get i with
   |some (.cells _ k _ z)=>bif Nat.ble (o+c*z) k then .slice (some ⟨i,o,none⟩) l (d9 c 0)::xs else .slice (some ⟨i,o,none⟩) l c::xs|_=>.slice (some ⟨i,o,none⟩) l c::xs
  else .slice (some ⟨i,o,none⟩) l c::xs
 |xs=>xs
def wkFn (fn:Func):Bool:=(Nat.beq fn.ntmps 33||Nat.beq fn.ntmps 95)&&match fn.params.toList,fn.resultTypes.toList with
 | [a,_,_],[r]=>Nat.beq a r|_,_=>false
def wkF (P:Aw)(f:Ay):Bool:=match P.funcs[f]? with
 |some fn=>wkFn fn|none=>false
def dA (P:Aw)(dr:bX)(ov:Aa):Nat->i8
 |0=>⟨fun _ _ _=>none,ov,fun _ _ _=>none⟩
 |n+1=>⟨fun f args hp=>bif isT (ov f)&&args.isEmpty then some (.bool true,hp)else fU (U9 P dr (dA P dr ov n) (Q7 P dr (dA P dr ov n) n) n f) (bif wkF P f then wkA hp args else args) hp,ov,qN P dr (dA P dr ov n) n⟩
section
variable {P :Aw}{B:BS}{w0:Bc}
def Lj (P:Aw)(f:Ay)(R:Af->Hp->Bb (Av×Hp)):Prop:=
 ∀args hp v hp',R args hp=some (v,hp')-> ∀B w0 σ w args',VRL σ args args'->HR B w0 σ hp w->
  Calls P f args'.toArray w (fun e w'=>∃σ' u,e= .returned u/\Sg.gr hp.nx hp'.nx σ σ'/\VR σ' v u/\HR B w0 σ' hp' w')
def Fi (P:Aw)(f:Ay)(R:Af->Hp->Bb (Av×Hp)):Prop:=
 ∀args hp v hp',R args hp=some (v,hp')-> ∀B w0 σ w args',VRL σ args args'->HR B w0 σ hp w-> ∀u,
  CallsDIn Fence.wide 0 P f args'.toArray u w (fun e u' w'=>u'=u/\ ∃σ' x,e= .returned x/\Sg.gr hp.nx hp'.nx σ σ'/\VR σ' v x/\HR B w0 σ' hp' w')
variable {σ:Sg}{hp:Hp}{w:Bc}
theorem HR.touch (h:HR B w0 σ hp w){b:Nat}{o:Obj}(t:¬B b)(hl:∀i x r q,hp.m.get i=some x->Ix x r->σ.f i r=some q->q.blk≠b):HR B w0 σ hp {w with heap:=w.heap.setIfInBounds b o}:=by refine⟨h.os,h.tape,h.output,by simpa using h.size,h.old,fun k hk=>?_,h.frs,fun i x r hg hx=>?_,h.ij,h.rz⟩;have d:b≠k:=fun e=>t (by rw[e];exact hk);simp[Array.getElem?_setIfInBounds_ne d,h.kept k hk];obtain⟨p,o',h1,h2,h3,h4⟩:=h.liv i x r hg hx;grind
variable {tmps:Al}
def rE {fn:Func}{vs us:Af}(h1:VRL σ vs us)(h2:(fn.results.toList.mapM (DY tmps):Sem (Af)).run P w= .ok us w):(results fn tmps).run P w= .ok (fS us) w/\VR σ (fS vs) (fS us):=by
 constructor
 ·have he:results fn tmps=(do let vs<-fn.results.mapM (DY tmps);pure (if h:vs.size=1 then vs[0]else .tuple vs):Sem Av):=rfl;rw[he,Array.mapM_eq_mapM_toList,TQ,Sem.run_map,h2];cases us with
  |nil=>rfl|cons x us=>cases us<;>rfl
 ·cases vs with
  |nil=>rw[h1.unnil];exact VRL.to_tuple (Wi σ)|cons x vs=>
   obtain⟨y,m,rfl,f,d⟩:=h1.uncons;cases vs with
   |nil=>rw[d.unnil];exact f|cons p vs=>obtain⟨q,o,rfl,_,_⟩:=d.uncons;exact h1.to_tuple
variable {runD:Ay->Af->Hp->Bb (Av×Hp)}
theorem Cr (Z:∀g,Fi P g (runD g)){fn:Func}{R:Ending->Bc->Prop}:∀(ds:List Df) (D:List Deferred) (hp hp':Hp) (σ:Sg) (w:Bc),K2 P runD ds hp=some hp'->DsR σ ds D->HR B w0 σ hp w->(∀σ' w',Sg.gr hp.nx hp'.nx σ σ'->HR B w0 σ' hp' w'->LeavesIn Fence.wide 0 P fn tmps R [] .returning w')->LeavesInM Fence.wide 0 P fn tmps R D .returning w:=by
 intro ds;induction ds with
 |nil=>
  intro D hp hp' σ w h u z k;simp only[K2,Tk]at h;subst h;cases D with
  |nil=>exact k σ w (VS _ σ) z|cons d D=>exact u.elim
 |cons x ds W=>
  intro D hp hp' σ w h u z k;cases D with
  |nil=>cases x<;>exact u.elim
  |cons d D=>
   obtain⟨hx,u⟩:=u;cases x with
   |mark r=>simp only[K2]at h;split at h;rename_i hg;obtain⟨p,hp1,t⟩:=hx;obtain⟨p',o,X,q2,q3,N⟩:=z.live r _ hg;have:p'=p:=TN (X.symm.trans hp1);subst this;have N:o= .deferred (some []):=N;subst N;have M:=(HR.drop z r).touch (o:= .deferred none) q2 (fun i x rr q hi hx hq e=>by have hi:(hp.m.set r none).get i=some x:=hi;rw[VX]at hi;by_cases A:i=r;grind;rw[TH A]at hi;exact z.ij i r x _ rr 0 q p' hi hg hx rfl (.inl A) hq X e);exact⟨by simp,.inl ⟨p'.blk,_,t,run_takeDeferred q3,W D _ hp' σ _ h u M k⟩⟩;cases h
   |call g args cap=>
    simp only[K2]at h;obtain⟨f,t,E,G⟩:=hx;split at h
    ·rename_i Y C;cases V:gA Y with
     |false=>grind|true=>
      rw[V,TE]at h;split at h
      ·rename_i v hp1 hr;refine⟨by simp,.inr ⟨fun h=>(by cases h),.func g,f,g,(d.args.toList++f.toList).toArray,t,?_,fun _ _=>trivial,?_⟩⟩
       ·rw[t];have:(d.args.toList++f.toList).toArray=d.args++f:=by apply Array.ext';simp
        rw[this];exact eR C V w
       refine CallsDIn.mono (Z g (args++cap) hp v hp1 hr B w0 σ w _ (E.append G) z .returning) fun e u' w' he=>?_;obtain⟨rfl,U,x,rfl,gr,_,K⟩:=he;exact W D hp1 hp' U w' h (u.mono gr.le) K fun σ' O g' J=>k σ' O (VT gr g') J
      cases h
    cases h
variable {dr:bX}{call:i8}
theorem EL (m:kU P dr)(O:Q4 P call)(J:∀g,Fi P g (runD g))(n:Nat)(g:Ay):Lj P g (U9 P dr call runD n g):=by
 intro args hp v hp' h B w0 σ w args' K N;simp only[U9]at h;split at h
 ·rename_i fn o;split at h
  ·rename_i c hc;have G:∀e tm1 hp1 d,(e= .normal\/e= .ret)->l7 P dr call (args.length+(fn.ntmps-args.length)) none n c (fill .e 0 args) hp []=some (.mk e tm1 hp1 d)->
     qH P fn runD tm1 hp1 d=some (v,hp')->
     Calls P g args'.toArray w (fun e w'=>∃σ' u,e= .returned u/\Sg.gr hp.nx hp'.nx σ σ'/\VR σ' v u/\HR B w0 σ' hp' w'):=by
    intro e tm1 hp1 d he hx hr;unfold qH at hr;split at hr
    ·rename_i hp2 q;split at hr
     ·rename_i vs z;simp at hr;obtain⟨rfl,rfl⟩:=hr;refine callsIn_wide.1 (callsIn_of_wp_marks o hc trivial (Vg ((bS O m n).1 c _ hp [] e tm1 hp1 d σ {tmps:=args'.toArray++Array.replicate (fn.ntmps-args'.toArray.size) undef,defers:=[]} w none hx (TR.start K fn.ntmps) N trivial trivial) fun e' a' w' hq=>?_));obtain⟨rfl,σ',p,M,ht,A⟩:=hq;have hL:LeavesInM Fence.wide 0 P fn a'.tmps (fun e w'=>∃σ' u,e= .returned u/\Sg.gr hp.nx hp2.nx σ σ'/\VR σ' (fS vs) u/\HR B w0 σ' hp2 w') a'.defers .returning w':=
       Cr J d a'.defers hp1 hp2 σ' w' q M A fun C w2 E f=>by obtain⟨us,r,t⟩:=aU (ht.mono E.le) f z;obtain⟨r1,R⟩:=rE r t;exact⟨_,r1,C,_,rfl,VT p E,R,f⟩
      rcases he with rfl|rfl;exact hL;exact hL
     grind
    grind
   grind
  cases h
 cases h
theorem Cj (p:kU P dr)(M:Q4 P call)(n:Nat)(g:Ay):Fi P g (Q7 P dr call n g):=by
 intro args hp v hp' h B w0 σ w args' J K C;simp only[Q7]at h;split at h
 ·rename_i fn q;split at h
  ·rename_i c hc;have E:∀e tm1 hp1,(e= .normal\/e= .ret)->l7 P dr call (args.length+(fn.ntmps-args.length)) none n c (fill .e 0 args) hp []=some (.mk e tm1 hp1 [])->
     qH P fn (fun _ _ _=>none) tm1 hp1 []=some (v,hp')->
     CallsDIn Fence.wide 0 P g args'.toArray C w (fun e N w'=>N=C/\ ∃σ' u,e= .returned u/\Sg.gr hp.nx hp'.nx σ σ'/\VR σ' v u/\HR B w0 σ' hp' w'):=by
    intro e tm1 hp1 he hx hr;simp only[qH,K2]at hr;split at hr
    ·rename_i vs z;simp at hr;obtain⟨rfl,rfl⟩:=hr;refine callsDIn_of_wp q hc trivial
      (Vg ((bS M p n).1 c _ hp [] e tm1 hp1 [] σ {tmps:=args'.toArray++Array.replicate (fn.ntmps-args'.toArray.size) undef,defers:=[]} w none hx (TR.start J fn.ntmps) K trivial trivial) fun e' a' w' hq=>?_)
     obtain⟨rfl,σ',o,m,ht,f⟩:=hq;obtain⟨us,r,t⟩:=aU ht f z;obtain⟨r1,A⟩:=rE r t;have m:a'.defers=[]:=by
      cases G:a'.defers with
      |nil=>rfl|cons d D=>rw[G]at m;exact m.elim
     rcases he with rfl|rfl;exact⟨m,_,r1,σ',_,rfl,o,A,f⟩;exact⟨m,_,r1,σ',_,rfl,o,A,f⟩
    grind
   grind
  cases h
 cases h
theorem zC {σ:Sg}{nt:Nat}:∀(ps:List Tmp) (xs ys:Af) (tm:Ao) (tmps:Al),xI nt ps=true->ps.length=xs.length->VRL σ xs ys->TR σ nt tm tmps->TR σ nt (iA tm ps xs) ((ps.zip ys).foldl (fun tmps (x:Tmp×Av)=>tmps.setIfInBounds x.1 x.2) tmps)
 | [],xs,ys,tm,tmps,_,_,_,h=>by cases xs<;>simpa [iA]using h
 |t::o,[],ys,tm,tmps,_,hl,_,_=>by grind|t::o,x::xs,ys,tm,tmps,d,hl,hv,h=>by obtain⟨y,m,rfl,f,hr⟩:=hv.uncons;simp only[xI,Tl]at d;exact zC o xs m _ _ d.2 (by grind) hr (h.put (To d.1) f)
def pD (f:HR B w0 σ hp w){i:Nat}{p:Pl}(hi:σ i=some p){st:LoopState}{pend:Bb Code}{nt:Nat}{tms:Ao}{ps:Array Tmp}{assign body:Code}{db:Nat}(hg:hp.m.get i=some (.loop st pend nt tms ps assign body db))(d:Bb Code):∃w',(Instr.endRound p.blk d).run P w= .ok (.bool d.isNone) w'/\HR B w0 σ {hp with m:=hp.m.set i (some (.loop (if d.isNone then .ready else .done) d nt tms ps assign body db))} w':=by obtain⟨p',o,h,A,u,v⟩:=f.live i _ hg;have:=TN (h.symm.trans hi);subst this;obtain⟨z,rfl,k1,k2,k3,k4,q,r,t⟩:=v;exact⟨_,run_endRound d u,HR.setO f hg h ⟨_,rfl,rfl,rfl,k3,k4,q,r,t⟩⟩
theorem Cu (N:kU P dr)(ih:Q4 P call)(m:Nat):∀i args hp v hp',qN P dr call m i args hp=some (v,hp')-> ∀B w0 σ w args' p,σ i=some p->VRL σ args args'->HR B w0 σ hp w-> ∃r,w.heap[p.blk]? =some (.loop r)/\args'.length=r.params.size/\RoundIn Fence.wide 0 P p.blk r.fn ((r.params.zip args'.toArray).foldl (fun tmps (t,a)=>tmps.setIfInBounds t a) r.tmps) r.assign r.body w (fun e w'=>∃σ' u,e= .returned u/\Sg.gr hp.nx hp'.nx σ σ'/\VR σ' v u/\HR B w0 σ' hp' w'):=by
 intro i args hp v hp' h B w0 σ w args' p hi ha hw;unfold qN at h;split at h
 ·rename_i pend nt tms ps assign body db hg;cases hb:Nat.beq ps.toList.length args.length&&xI nt ps.toList with
  |false=>grind|true=>
   rw[hb,TE]at h;simp only[Tl]at hb;have q:=Tp hb.1;obtain⟨p',o,q1,q2,q3,q4⟩:=hw.live i _ hg;have:=TN (q1.symm.trans hi);subst this;obtain⟨d,rfl,k1,k2,rfl,rfl,rfl,k6,k7⟩:=q4;refine⟨d,q3,by rw[<-ha.1,<-q];simp,?_⟩;have z:(d.params.zip args'.toArray).foldl (fun tmps (x:Tmp×Av)=>tmps.setIfInBounds x.1 x.2) d.tmps=(d.params.toList.zip args').foldl (fun tmps (x:Tmp×Av)=>tmps.setIfInBounds x.1 x.2) d.tmps:=by rw[<-Array.foldl_toList,Array.toList_zip]
   have R:=zC d.params.toList args args' tms d.tmps hb.2 q ha ⟨k6.1,k6.2⟩;rw[<-z]at R;split at h;rename_i tm1 hp1 J hx;refine roundIn_of_wpIn trivial (Vg ((bS ih N m).1 d.assign _ hp [] .normal tm1 hp1 J σ {tmps:=_,defers:=[]} w (some p'.blk) hx R hw trivial ⟨p',hi,rfl⟩) fun e1 a1 w1 Z=>?_);obtain⟨rfl,ah,K,hd1,ht1,T⟩:=Z;have f:=K.le _ _ hi;split at h;rename_i p1 n1 t1 r1 V W X O;obtain⟨p2,o2,u1,u2,u3,u4⟩:=T.live i _ O;have:=TN (u1.symm.trans f);subst this;obtain⟨U,rfl,m1,m2,m3,m4,m5,m6,m7⟩:=u4;refine⟨_,run_beginRound u3 m1,?_⟩;have ab:=HR.setO (b':= .loop .busy p1 n1 t1 r1 V W X) T O f (o:= .loop {U with state:= .busy}) ⟨_,rfl,rfl,m2,m3,m4,m5,m6,m7⟩;split at h;rename_i e ae hp2 Y ac;refine Vg ((bS ih N m).1 d.body _ _ J e ae hp2 Y ah a1 _ (some p2.blk) ac ht1 ab hd1 ⟨p2,f,rfl⟩) fun e2 a2 w2 aa=>?_;obtain⟨rfl,G,M,_,_,E⟩:=aa;have C:=M.le _ _ f;have gr:=VT K M;split at h;rename_i al ad n3 t3 r3 ai aj ak A;split at h;simp at h;obtain⟨rfl,rfl⟩:=h;obtain⟨w3,s1,s2⟩:=pD E C A none;exact⟨_,w3,s1,G,_,rfl,gr,.bool true,s2⟩;simp at h;obtain⟨rfl,rfl⟩:=h;obtain⟨w3,s1,s2⟩:=pD E C A (some .ret);exact⟨_,w3,s1,G,_,rfl,gr,.bool false,s2⟩;rename_i id;cases h;obtain⟨w3,s1,s2⟩:=pD E C A (some (.exit id));exact⟨_,w3,s1,G,_,rfl,gr,.bool false,s2⟩;cases h;cases h;cases h;cases h;cases h
 cases h
theorem vM {J:Sg}{ha:Hp}{w':Bc}{i j a N:Nat}{X Y:Blk}{la ca:Nat}{Z c2:Ao}{k k2 K e z:Nat}{u:Av}(hw:HR B w0 σ hp w)(ay:hp.m.get i=some X)(az:hp.m.get j=some Y)(hr:HR (rest B σ ⟨(T.set .e i (some X)).set j (some Y),hp.nx⟩ w) w J ha w')(gr:Sg.gr hp.nx ha.nx σ J)(hv:VR J (.slice (some ⟨a,K,none⟩) la ca) u)(aw:unk<=ca)(ab:ha.m.get a=some (.cells c2 k2 e z))(hk:K+k<=k2)(hc:∀x,x<k->Z.get x=c2.get (K+x))(an:∀x v,x<k->Z.get x=some v->noR v=true)(hN:ha.nx<=N):∃σ',Sg.gr hp.nx (N+1) σ σ'/\VR σ' (.slice (some ⟨N,0,none⟩) la (d9 la 0)) u/\HR B w0 σ' ⟨((hp.m.set i none).set j none).set N (some (.cells Z k e z)),N+1⟩ w':=by
 have O:∀x b,((T.set .e i (some X)).set j (some Y):T Blk).get x=some b->(x=i\/x=j)/\hp.m.get x=some b:=by intro x b hg;rw[VX]at hg;by_cases hj:x=j;grind;rw[TH hj,VX]at hg;by_cases hi:x=i;grind;rw[TH hi]at hg;simp[VW]at hg
 have aq:HR B w0 σ ⟨(T.set .e i (some X)).set j (some Y),hp.nx⟩ w:=hw.less (fun x b hg=>(O x b hg).2);have hb:=aq.back hr;cases hv with
 | slice _ _ p _ _ c' hpa ai ad =>
 have aj:J N=none:=hb.fresh N hN;let E : Sg:=⟨fun i r=>if r=0 then J.f i 0 else σ.f i r⟩
 have M:∀i,E i=J i:=fun i=>rfl;have aa:∀i r,r≠0->E.f i r=σ.f i r:=fun i r h=>TH h;have d:Sg.le σ E:=fun i p {r} h=>by by_cases h0:r=0;subst h0;exact(M i).trans (gr.le _ _ h);grind
 have G:=VU (σ:=E) (i:=N) {p with dl:=p.dl+K} ((M N).trans aj);have ba:=gr.nx;obtain⟨p',o,l1,l2,l3,l4⟩:=hb.live a _ ab;have:p'=p:=TN (l1.symm.trans hpa);subst this;obtain⟨q',o',r1,r2,r3,_⟩:=hr.live a _ ab;have:q'=p':=TN (r1.symm.trans hpa);subst this;have old:∀x b,x≠N->((((hp.m.set i none).set j none).set N (some (.cells Z k e z))):T Blk).get x=some b->hp.m.get x=some b/\ ∀r,Ix b r-> ∃q o,σ.f x r=some q/\NB B q.blk b/\w.heap[q.blk]? =some o/\BX σ q r b o/\rest B σ ⟨(T.set .e i (some X)).set j (some Y),hp.nx⟩ w q.blk:=by
  intro x b A hg;rw[VX,TH A,VX]at hg;by_cases hj:x=j;grind
  ·rw[TH hj,VX]at hg;by_cases hi:x=i;grind
   ·rw[TH hi]at hg;refine⟨hg,fun r hx=>?_⟩;obtain⟨q,o,h1,h2,h3,h4⟩:=hw.liv x b r hg hx;refine⟨q,o,h1,h2,h3,h4,.inr ⟨(TB.1 h3).1,fun y b' s q' hy R ao=>?_⟩⟩;obtain⟨av,ak⟩:=O y b' hy;have au:y≠x:=by grind
    exact hw.ij y x _ _ s r q' q ak hg R hx (.inl au) ao h1
 refine⟨E.ext N {q' with dl:=q'.dl+K},⟨Sg.le_trans d G,fun x hx=>(VO _ _ _ (by omega)).trans ((M x).trans (gr.low x hx)),by omega⟩,?_,?_⟩;have:=VR.slice (σ:=E.ext N {q' with dl:=q'.dl+K}) N 0 {q' with dl:=q'.dl+K} la (d9 la 0) c' (VQ _ _ _) (.inr ⟨p8 _ _,by rw[I1 F9];exact ad,.inl (G8 F9),by rcases ai with⟨_,h⟩| ⟨_,_,_,h⟩;omega;exact h⟩) ad;exact this
 ·refine⟨hb.os,hb.tape,hb.output,hb.size,hb.old,hb.kept,fun x r hx=>(VP _ _ _ (.inl (by have:N+1<=x:=hx;omega))).trans (by have h1:N+1<=x:=hx;by_cases h0:r=0;subst h0;exact(M x).trans (hb.frs x 0 (by omega));exact(aa x r h0).trans (hw.frs x r (by have:=gr.nx;omega))),?_,?_,fun x b hg ae=>?_⟩;intro x b r hg t;by_cases hx:x=N;subst hx;rw[VX,TJ rfl]at hg;cases hg;have W:r=0:=t;subst W;obtain⟨C,e1,e2,e3,e4,e5⟩:=l4;refine⟨{q' with dl:=q'.dl+K},o,VQ _ _ _,l2,l3,C,e1,e2,e3,(by show q'.dl+K+k<=q'.siz;omega),fun y hy=>?_⟩;obtain⟨v,u,a1,a2,a3⟩:=e5 (K+y) (by omega);exact⟨v,u,(hc y hy).trans a1,(by show C[q'.dl+K+y]? =some u;rw[Uu];exact a2),(a3.noR (fun i p h=>(M i).trans h) (an y v hy ((hc y hy).trans a1))).mono G⟩;obtain⟨ax,ho⟩:=old x b hx hg;obtain⟨q,o,h1,h2,h3,h4,h5⟩:=ho r t;exact⟨q,o,G _ _ (d _ _ h1),h2,(hr.kept _ h5).trans h3,h4.mono (Sg.le_trans d G)⟩
  ·intro x y U b2 r s p1 p2 hx hy t R al hp1 hp2;have ah:∀x U r p1,((((hp.m.set i none).set j none).set N (some (.cells Z k e z))):T Blk).get x=some U->Ix U r->(E.ext N {q' with dl:=q'.dl+K}).f x r=some p1->
     (x=N/\r=0/\p1.blk=q'.blk)\/(x≠N/\hp.m.get x=some U/\σ.f x r=some p1/\rest B σ ⟨(T.set .e i (some X)).set j (some Y),hp.nx⟩ w p1.blk):=by
    intro x U r p1 hx t hp1;by_cases A:x=N;subst A;rw[VX,TJ rfl,Tk]at hx;subst hx;have W:r=0:=t;subst W;exact .inl ⟨rfl,rfl,by rw[TN (hp1.symm.trans (VQ _ _ _))]⟩;obtain⟨ac,ho⟩:=old x U A hx;obtain⟨q,o,h1,_,_,_,h5⟩:=ho r t;have e1:p1=q:=TN (hp1.symm.trans (G _ _ (d _ _ h1)));grind
   rcases ah x U r p1 hx t hp1 with⟨e1,e2,e3⟩| ⟨e1,e2,e3,e4⟩<;>rcases ah y b2 s p2 hy R hp2 with⟨k1,k2,k3⟩| ⟨k1,k2,k3,k4⟩;omega;exact fun V=>r2 (e3▸V▸k4);exact fun V=>r2 (k3▸V▸e4);exact hw.ij x y _ _ r s _ _ e2 k2 t R al e3 k3
  ·have A:x≠N:=by rintro rfl;have hg:((((hp.m.set i none).set j none).set x (some (.cells Z k e z))):T Blk).get x=some b:=hg;rw[VX,TJ rfl,Tk]at hg;subst hg;cases ae
   obtain⟨ac,_⟩:=old x b A hg;obtain⟨⟨q,hq⟩,ap⟩:=hw.rz x b ac ae;exact⟨⟨q,G _ _ (d _ _ hq)⟩,fun r h0 hx=>by rw[VP _ _ _ (.inl A),aa x r h0];exact ap r h0 hx⟩
theorem Cy {f:Ay}{R:Af->Hp->Bb (Av×Hp)}(hR:Lj P f R):Lj P f (Cx R):=by
 intro args hp v hp' h B w0 σ w args' K hw;unfold Cx at h;split at h;case h_2=>cases h
 rename_i i o0 l c x j o m cm;cases hb:Nat.ble unk c&&Nat.beq (F5 c) 0&& !(Nat.beq i j)&&Nat.ble (l+m) 67108864 with
 |false=>grind|true=>
 rw[hb,TE]at h;simp only[Tl]at hb;obtain⟨⟨⟨b1,b2⟩,b3⟩,b4⟩:=hb;have b1:=To b1;have b4:=To b4;split at h;case h_2=>cases h
 rename_i bi bj ab ac;split at h;case h_2=>cases h
 rename_i a oa Z ca ha b ob lb cb aa hA hB;cases t:Nat.beq Z lb&&Nat.ble unk ca&&Nat.ble unk cb with
 |false=>grind|true=>
 rw[t,TE]at h;simp only[Tl]at t;have d1:=Tp t.1.1;have d2:=To t.1.2;have d3:=To t.2;subst d1;split at h;case h_2=>cases h
 rename_i c1 k1 e1 z1 c2 k2 e2 z2 aj ak;cases q:Nat.ble (oa+Z*z1) k1&&Nat.ble (ob+Z*z1) k2&&Nat.beq e1 e2&&Nat.beq z1 z2 with
 |false=>grind|true=>
 rw[q,TE]at h;simp only[Tl]at q;have f0:=To q.1.1.1;have f1:=To q.1.1.2;have f2:=Tp q.1.2;have f3:=Tp q.2;subst f2;subst f3;split at h;case h_2=>cases h
 rename_i A v2 ad al;cases d:(oT (veq 100) A v2||clEq A v2)&&A.all noR with
 |false=>grind|true=>
 rw[d,TE]at h;cases h;rw[Tl]at d;obtain⟨J,au⟩:=d;have ao:A=v2:=by rw[UK]at J;exact J.elim (dZ (qD 100)) OR
 subst ao;have an:=(l9 ad).1;have C:∀x,x<Z*z1->(fill .e 0 A).get x=c1.get (oa+x):=by intro x hx;rw[<-(l9 ad).2 x hx];exact p6 A x (by omega)
 have ah:∀x v,x<Z*z1->(fill .e 0 A).get x=some v->noR v=true:=by intro x v hx hg;rw[p6 A x (by omega)]at hg;grind
 have U:∀x,x<Z*z1->(fill .e 0 A).get x=c2.get (ob+x):=by intro x hx;rw[<-(l9 al).2 x hx];exact p6 A x (by omega)
 have Y:∀x b,((T.set .e i (some bi)).set j (some bj):T Blk).get x=some b->hp.m.get x=some b:=by intro x b hg;rw[VX]at hg;by_cases hj:x=j;grind;rw[TH hj,VX]at hg;by_cases hi:x=i;grind;rw[TH hi]at hg;simp[VW]at hg
 have G:=(hw.less Y).max;obtain⟨s',r,rfl,hs,z⟩:=K.uncons;cases hs with
 | slice _ _ p _ _ c' ai av M =>
 obtain⟨aq,E⟩:P4 c<=c'/\p.dl+o0+c'*p.esz<=p.siz:=by grind
 have ae:l+m<unk:=by unfold unk;omega
 by_cases O:l+m<=c'
 ·have V:VR σ (.slice (some ⟨i,o0,none⟩) l (d9 (l+m) 0)) (.slice (some ⟨p.blk,p.dl+o0,none⟩) l c'):=
   .slice i o0 p l _ c' ai (.inr ⟨p8 _ _,by rw[I1 F9];exact O,.inl (G8 F9),E⟩) M
  refine(hR _ _ _ _ hA _ _ _ _ _ (Wh V z) G).mono fun e w' he=>?_;obtain⟨ap,u,rfl,gr,W,X⟩:=he;obtain⟨σ',q1,q2,q3⟩:=vM (N:=Nat.max ha.nx aa.nx) hw ab ac X gr W d2 aj f0 C ah (Nat.le_max_left _ _);grind
 ·have V:VR σ (.slice (some ⟨i,o0,none⟩) l (d9 l (l+m))) (.slice (some ⟨p.blk,p.dl+o0,none⟩) l c'):=
   .slice i o0 p l _ c' ai (.inr ⟨p8 _ _,by rw[I1 ae];exact M,.inr (by rw[G8 ae];omega),E⟩) M
  refine(hR _ _ _ _ hB _ _ _ _ _ (Wh V z) G).mono fun e w' he=>?_;obtain⟨ap,u,rfl,gr,W,X⟩:=he;obtain⟨σ',q1,q2,q3⟩:=vM (N:=Nat.max ha.nx aa.nx) hw ab ac X gr W d3 ak f1 U ah (UE _ _);grind
theorem SX (q:HR B w0 σ hp w){args args':Af}(h:VRL σ args args'):VRL σ (wkA hp args) args':=by
 unfold wkA;split
 ·rename_i i o l c xs;cases hc:Nat.ble c 67108864 with
  |false=>exact h|true=>
  split
  ·rename_i cs k e z hg;cases hk:Nat.ble (o+c*z) k with
   |false=>exact h|true=>
   have hc:=To hc;have hk:=To hk;have m:c<unk:=by unfold unk;omega
   obtain⟨y,ys,rfl,h1,h2⟩:=h.uncons;refine Wh ?_ h2;cases h1 with
   |slice _ _ p _ _ c' f d hl=>obtain⟨k1,k2⟩:=q.place hg f;rcases d with⟨rfl,_⟩| ⟨d,_⟩;exact .slice i o p l _ _ f (.inr ⟨p8 _ _,by rw[I1 (by omega)];exact TK _,.inl (G8 (by omega)),by grind⟩) hl;omega
  exact h
 exact h
theorem CP (d:kU P dr){ov:Aa}(f:∀g t,ov g=some t->kV P g t):∀n,Q4 P (dA P dr ov n):=by
 intro n;induction n with
 |zero=>exact⟨(fun g args hp v hp' h=>by cases h),f,(fun i args hp v hp' h=>by cases h)⟩|succ n p=>
  refine⟨fun g args hp v hp' h=>?_,f,Cu d p n⟩;simp only[dA,fU]at h;cases ht:isT (ov g)&&args.isEmpty with
  |true=>
   rw[ht,TE]at h;cases h;rw[Tl]at ht;intro B w0 σ w args' m o;obtain rfl:=List.isEmpty_iff.1 ht.2;obtain rfl:=m.unnil;have h1:=ht.1;unfold isT at h1;split at h1
   ·rename_i t e;rcases f g t e with⟨_,k⟩| ⟨k,_⟩;exact(k w).mono fun e w' he=>⟨σ,_,he.1,VS _ σ,.bool true,o.below he.2⟩
    simp_all
   grind
  |false=>
  rw[ht,TF]at h;have hb:=EL d p (Cj d p n) n g;intro B w0 σ w args' m o;have m:VRL σ (bif wkF P g then wkA hp args else args) args':=by
   cases wkF P g with
   |true=>exact SX o m|false=>grind
  split at h;rename_i r hr;cases h;exact hb _ hp v hp' hr B w0 σ w args' m o;exact Cy hb _ hp v hp' h B w0 σ w args' m o
end
structure Ent where
 i:Nat
 o:Oper
 pre:Nat
 tm:Ao
 S:Hp
 S2:Hp
 I:Nat
 wt:Bool
 r:Av
 nw:Bb Nw
def takes (nx0:Nat)(m:Nat->Bool):List Ent->Hp->Hp
 | [],S=>S|e::es,S=>match e.nw with
  |some n=>bif m e.i then takes nx0 m es (S.take (nx0+e.i) n)else takes nx0 m es S|none=>takes nx0 m es S
def lV (pre I:Nat)(j:Nat):Bool:=pre.testBit j&& !I.testBit j
def iD (I:Nat)(j:Nat):Bool:= !I.testBit j
structure Out where
 tm:Ao
 S:Hp
 I:Nat
 es:List Ent
def xgo (P:Aw)(call:i8)(nt:Nat)(all:An)(nx0:Nat):List (Oper×Nat)->Nat->Ao->Hp->Nat->List Ent->Bb Out
 | [],_,tm,S,I,es=>some ⟨tm,S,I,es⟩| (o,pre)::rest,i,tm,S,I,es=>
  bif B6 nt o.dst then
   bif t7 all tm o then
    match i4 o.op with
    |0=>match xop P call tm S o.op with
     |some (v,_)=>xgo P call nt all nx0 rest (i+1) (y6 tm o.dst v) S I (⟨i,o,pre,tm,S,S,I,true,v,none⟩::es)|none=>none
    |1=>match xrd P tm S o.op with
     |some v=>xgo P call nt all nx0 rest (i+1) (y6 tm o.dst v) S I (⟨i,o,pre,tm,S,S,I,true,v,none⟩::es)|none=>none
    |2=>match xnw P tm o.op with
     |some n=>xgo P call nt all nx0 rest (i+1) (y6 tm o.dst (n.val (nx0+i))) S I (⟨i,o,pre,tm,S,S,I,true,n.val (nx0+i),some n⟩::es)|none=>none
    |_=>match xop P call tm (takes nx0 (lV pre I) es S) o.op with
     |some (v,S2)=>xgo P call nt all nx0 rest (i+1) (y6 tm o.dst v) S2 (I|||pre) (⟨i,o,pre,tm,S,S2,I,true,v,none⟩::es)|none=>none
   else xgo P call nt all nx0 rest (i+1) (y6 tm o.dst undef) S I (⟨i,o,pre,tm,S,S,I,false,undef,none⟩::es)
  else none
structure Fj (P:Aw)(call:i8)(nt:Nat)(all:An)(nx0:Nat)(e:Ent)(es:List Ent)(tm':Ao)(S':Hp)(I':Nat):Prop where
 dst:B6 nt e.o.dst=true
 wt:e.wt=t7 all e.tm e.o
 tm:tm'=y6 e.tm e.o.dst e.r
 S2:e.S2=S'
 un:e.wt=false->e.r=undef/\e.nw=none
 low:(e.wt=false\/i4 e.o.op≠3)->S'=e.S/\I'=e.I
 k0:e.wt=true->i4 e.o.op=0-> ∀S,xop P call e.tm S e.o.op=some (e.r,S)
 k1:e.wt=true->i4 e.o.op=1->xrd P e.tm e.S e.o.op=some e.r
 k2:e.wt=true->i4 e.o.op=2-> ∃n,xnw P e.tm e.o.op=some n/\e.r=n.val (nx0+e.i)/\e.nw=some n
 k3:e.wt=true->3<=i4 e.o.op->xop P call e.tm (takes nx0 (lV e.pre e.I) es e.S) e.o.op=some (e.r,S')/\I'=e.I|||e.pre
 nw:i4 e.o.op≠2->e.nw=none
inductive O5 (P:Aw)(call:i8)(nt:Nat)(all:An)(nx0:Nat)(tmN:Ao)(SN:Hp)(IN:Nat):List Ent->List Ent->Ao->Hp->Nat->Prop
 |nil (es:List Ent):O5 P call nt all nx0 tmN SN IN es [] tmN SN IN
 | cons (e : Ent) (es s : List Ent) (tm' : Ao) (S' : Hp) (I' : Nat) (hi : e.i = es.length) (h : Fj P call nt all nx0 e es tm' S' I')
   (hc:O5 P call nt all nx0 tmN SN IN (e::es) s tm' S' I'):O5 P call nt all nx0 tmN SN IN es (e::s) e.tm e.S e.I
theorem nM (o:Op):i4 o<=3:=by unfold i4;grind
section
variable {P :Aw}{call:i8}{nt:Nat}{all:An}{nx0:Nat}{tmN:Ao}{SN:Hp}{IN:Nat}
theorem KP :∀(ps:List (Oper×Nat)) (i:Nat) (tm:Ao) (S:Hp) (I:Nat) (es:List Ent) (out:Out),xgo P call nt all nx0 ps i tm S I es=some out->i=es.length-> ∃s,out.es=s.reverse++es/\s.map (fun e=>(e.o,e.pre))=ps/\O5 P call nt all nx0 out.tm out.S out.I es s tm S I:=by
 intro ps;induction ps with
 |nil=>intro i tm S I es out h hi;simp only[xgo,Tk]at h;subst h;exact⟨[],rfl,rfl,.nil es⟩
 |cons p ps z=>
  intro i tm S I es out h hi;obtain⟨o,pre⟩:=p;simp only[xgo]at h;cases f:B6 nt o.dst with
  |false=>grind|true=>
   rw[f,TE]at h;have next:∀(e:Ent) (S':Hp) (I':Nat),e.i=i->e.o=o->e.pre=pre->e.tm=tm->e.S=S->e.I=I->Fj P call nt all nx0 e es (y6 tm o.dst e.r) S' I'->
     xgo P call nt all nx0 ps (i+1) (y6 tm o.dst e.r) S' I' (e::es)=some out->
     ∃s,out.es=s.reverse++es/\s.map (fun e=>(e.o,e.pre))=(o,pre)::ps/\O5 P call nt all nx0 out.tm out.S out.I es s tm S I:=by
    rintro e S' I' rfl rfl rfl rfl rfl rfl hs hx;obtain⟨s,h1,h2,h3⟩:=z _ _ _ _ _ _ hx (by grind);exact⟨e::s,by grind,by grind,.cons e es s _ _ _ hi hs h3⟩
   cases d:t7 all tm o with
   |false=>rw[d,TF]at h;refine next ⟨i,o,pre,tm,S,S,I,false,undef,none⟩ S I rfl rfl rfl rfl rfl rfl ⟨f,d.symm,rfl,rfl,fun _=>⟨rfl,rfl⟩,fun _=>⟨rfl,rfl⟩,?_,?_,?_,?_,fun _=>rfl⟩ h<;>(intro hf;cases hf)
   |true=>
    rw[d,TE]at h;split at h
    ·rename_i hk;split at h
     ·rename_i v S2 hx;obtain⟨r,hr⟩:=wQ hk;have m:r=some v:=by rw[hr]at hx;exact(l6 hx).1
      refine next ⟨i,o,pre,tm,S,S,I,true,v,none⟩ S I rfl rfl rfl rfl rfl rfl ⟨f,d.symm,rfl,rfl,fun hf=>(by grind),fun _=>⟨rfl,rfl⟩,fun _ _ S=>?_,fun _ h1=>?_,fun _ h1=>?_,fun _ h1=>?_,fun _=>rfl⟩ h
      rw[hr,m];rfl;grind;grind;grind
     cases h
    ·rename_i hk;split at h
     ·rename_i v hx;refine next ⟨i,o,pre,tm,S,S,I,true,v,none⟩ S I rfl rfl rfl rfl rfl rfl ⟨f,d.symm,rfl,rfl,fun hf=>(by grind),fun _=>⟨rfl,rfl⟩,fun _ h1=>?_,fun _ _=>hx,fun _ h1=>?_,fun _ h1=>?_,fun _=>rfl⟩ h
      grind;grind;grind
     cases h
    ·rename_i hk;split at h
     ·rename_i n hx;refine next ⟨i,o,pre,tm,S,S,I,true,n.val (nx0+i),some n⟩ S I rfl rfl rfl rfl rfl rfl ⟨f,d.symm,rfl,rfl,fun hf=>(by grind),fun _=>⟨rfl,rfl⟩,fun _ h1=>?_,fun _ h1=>?_,fun _ _=>⟨n,hx,rfl,rfl⟩,fun _ h1=>?_,fun h1=>absurd hk h1⟩ h
      grind;grind;grind
     cases h
    ·rename_i q t u;have h3:i4 o.op=3:=by have:=nM o.op;grind
     split at h
     ·rename_i v S2 hx;refine next ⟨i,o,pre,tm,S,S2,I,true,v,none⟩ S2 (I|||pre) rfl rfl rfl rfl rfl rfl ⟨f,d.symm,rfl,rfl,fun hf=>(by grind),fun hl=>?_,fun _ h1=>?_,fun _ h1=>?_,fun _ h1=>?_,fun _ _=>⟨hx,rfl⟩,fun _=>rfl⟩ h
      grind;grind;grind;grind
     cases h
variable {es s:List Ent}{tm:Ao}{S:Hp}{I:Nat}
theorem O5.get (h:O5 P call nt all nx0 tmN SN IN es s tm S I):∀ {k:Nat} {e:Ent},s[k]? =some e->e.i=es.length+k/\ ∃tm' S' I',Fj P call nt all nx0 e ((s.take k).reverse++es) tm' S' I'/\O5 P call nt all nx0 tmN SN IN (e::((s.take k).reverse++es)) (s.drop (k+1)) tm' S' I':=by induction h<;>grind
theorem O5.upTo (h:O5 P call nt all nx0 tmN SN IN es s tm S I):∀ {k:Nat} {e:Ent},s[k]? =some e->O5 P call nt all nx0 e.tm e.S e.I es (s.take k) tm S I:=by
 induction h with
 |nil es=>grind|cons e0 es s tm' S' I' hi hs hc d=>
  intro k e h;cases k with
  |zero=>simp at h;subst h;exact .nil es|succ k=>exact .cons e0 es _ tm' S' I' hi hs (d h)
theorem O5.tm_none (h:O5 P call nt all nx0 tmN SN IN es s tm S I){t:Nat}(hn:∀e∈s,e.o.dst≠some t):tmN.get t=tm.get t:=by
 induction h with
 |nil es=>rfl|cons e0 es s tm' S' I' hi hs hc f=>
  rw[f (fun e he=>hn e (by grind)),hs.tm];have h0:=hn e0 (by simp);unfold y6;cases m:e0.o.dst with
  |none=>rfl|some d=>rw[VX,TH (fun e=>h0 (by grind))]
theorem O5.tm_some (h:O5 P call nt all nx0 tmN SN IN es s tm S I):∀ {k:Nat} {e:Ent} {t:Nat},s[k]? =some e->e.o.dst=some t->(∀(j:Nat) e',s[j]? =some e'->j≠k->e'.o.dst≠some t)->tmN.get t=some e.r:=by
 induction h with
 |nil es=>grind|cons e0 es s tm' S' I' hi hs hc q=>
  intro k e t h f m;cases k with
  |zero=>
   simp at h;subst h;have d:∀e∈s,e.o.dst≠some t:=by intro e he;obtain⟨j,hj,rfl⟩:=List.mem_iff_getElem.1 he;exact m (j+1) _ (by simp) (by omega)
   rw[hc.tm_none d,hs.tm];unfold y6;rw[f,VX,TJ rfl]
  |succ k=>exact q h f (fun j e' hj p=>m (j+1) e' (by grind) (by omega))
theorem O5.still (h:O5 P call nt all nx0 tmN SN IN es s tm S I)(hn:∀e∈s,i4 e.o.op≠3):SN=S/\IN=I:=by
 induction h with
 |nil es=>grind|cons e0 es s tm' S' I' hi hs hc d=>obtain⟨h3,h4⟩:=hs.low (.inr (hn e0 (by simp)));grind
end
section
variable {P :Aw}{B:BS}{w0:Bc}{σ:Sg}{hp:Hp}{w:Bc}
variable {id:Nat}
theorem Ext.take {d b b':Nat}{n n':Nw}(h:Ext B σ hp w id n b)(h':Ext B σ hp w d n' b')(hb:b≠b'):Ext B σ (hp.take id n) w d n' b':=by obtain⟨p,o,f,a2,a3,m,t,u⟩:=h';obtain⟨q,D,v,z,_⟩:=h;refine⟨p,o,f,a2,a3,m,t,?_⟩;intro i c x r hg hx hr;simp only[Hp.take,VX]at hg;by_cases hi:i=id;rw[TJ hi,Tk]at hg;subst hi;subst hg;have:=(Vw n.rg).1 hx;grind;grind
def Ext.step {f S2:Hp}{b:Nat}{n:Nw}(h:Ext B σ f w id n b){σ':Sg}{w':Bc}(k:HR (rest B σ f w) w σ' S2 w')(d:Sg.le σ σ'):Ext B σ' S2 w' id n b:=by
 obtain⟨p,o,v,a2,a3,z,u,A⟩:=h;have hr:rest B σ f w b:= .inr ⟨(TB.1 a3).1,fun i c r q hg hx hq=>A i c r q hg hx hq⟩;refine⟨p,o,d _ _ v,a2,by rw[k.kept b hr];exact a3,z.mono d,u,?_⟩;intro i c r q hg hx hq t;obtain⟨q',D,C,m,_⟩:=k.liv i c r hg hx;have:q'=q:=TN (C.symm.trans hq);subst this;rw[t]at m;cases hc:cC c with
 |true=>exact u (B.sub _ (m.yes hc))|false=>exact m.no hc hr
theorem Ext.lay {f b':Nat}{n':Nw}(h':Ext B σ hp w f n' b')(A:HR B w0 σ hp w)(h:σ id=none)(m:Pl)(o:Obj):Ext B (σ.ext id m) hp (w.alloc o) f n' b':=by obtain⟨p,C,t,a2,a3,u,v,E⟩:=h';have d:=VU m h;refine⟨p,C,d _ _ t,a2,by rw[Below.heap_alloc _ _ _ (TB.1 a3).1];exact a3,u.mono d,v,?_⟩;intro i c r q hg hx hq;obtain⟨q',D,z,_⟩:=A.liv i c r hg hx;have:=(d _ _ z).symm.trans hq;grind
theorem Ol {nx0:Nat}{m:Nat->Bool}:∀(es:List Ent) {hp:Hp},HR B w0 σ hp w->(∀(j:Nat) e n,es[j]? =some e->e.nw=some n->m e.i=true-> ∃b,Ext B σ hp w (nx0+e.i) n b)->(∀(j j':Nat) e e' n n' b b',es[j]? =some e->es[j']? =some e'->j≠j'->e.nw=some n->e'.nw=some n'->m e.i=true->m e'.i=true->Ext B σ hp w (nx0+e.i) n b->Ext B σ hp w (nx0+e'.i) n' b'->b≠b')->HR B w0 σ (takes nx0 m es hp) w/\(takes nx0 m es hp).nx=hp.nx/\ ∀d n' b',Ext B σ hp w d n' b'->(∀(j:Nat) e n b,es[j]? =some e->e.nw=some n->m e.i=true->Ext B σ hp w (nx0+e.i) n b->b≠b')->Ext B σ (takes nx0 m es hp) w d n' b':=by
 intro es;induction es with
 |nil=>intro hp A _ _;exact⟨A,rfl,fun d n' b' h _=>h⟩
 |cons e es K=>
  intro hp A h1 h2;cases hn:e.nw with
  |none=>simp only[takes,hn];obtain⟨t,a2,a3⟩:=K A (fun j e n hj=>h1 (j+1) e n (by grind)) (fun j j' e e' n n' b b' hj f o=>h2 (j+1) (j'+1) e e' n n' b b' (by grind) (by simpa using f) (by omega));exact⟨t,a2,fun d n' b' hx r=>a3 d n' b' hx (fun j e n b hj=>r (j+1) e n b (by grind))⟩
  |some n=>
   cases hm:m e.i with
   |false=>simp only[takes,hn,hm,TF];obtain⟨t,a2,a3⟩:=K A (fun j e n hj=>h1 (j+1) e n (by grind)) (fun j j' e e' n n' b b' hj f o=>h2 (j+1) (j'+1) e e' n n' b b' (by grind) (by simpa using f) (by omega));exact⟨t,a2,fun d n' b' hx r=>a3 d n' b' hx (fun j e n b hj=>r (j+1) e n b (by grind))⟩
   |true=>
    simp only[takes,hn,hm,TE];obtain⟨b,hb⟩:=h1 0 e n rfl hn hm;have keep:∀ {d:Nat} {n':Nw} {b':Nat},Ext B σ hp w d n' b'->b≠b'->Ext B σ (hp.take (nx0+e.i) n) w d n' b':=fun hx o=>hb.take hx o;have back:∀ {d:Nat} {n':Nw} {b' G:Nat},Ext B σ hp w d n' b'->Ext B σ (hp.take (nx0+e.i) n) w d n' G->G=b':=by intro d n' b' G hx hy;obtain⟨p,_,J,N,_⟩:=hx;obtain⟨q,_,V,W,_⟩:=hy;grind
    obtain⟨t,a2,a3⟩:=K (A.take hb)
     (fun j e' n' hj z v=>by obtain⟨b',u⟩:=h1 (j+1) e' n' (by simpa using hj) z v;exact⟨b',keep u (h2 0 (j+1) e e' n n' b b' rfl (by grind) (by omega) hn z hm v hb u)⟩)
     (fun j j' e1 e2 C O T G hj f o k1 k2 k3 k4 M U=>by obtain⟨J,E⟩:=h1 (j+1) e1 C (by simpa using hj) k1 k3;obtain⟨N,R⟩:=h1 (j'+1) e2 O (by simpa using f) k2 k4;rw[back E M,back R U];exact h2 (j+1) (j'+1) e1 e2 C O J N (by simpa using hj) (by simpa using f) (by omega) k1 k2 k3 k4 E R)
    refine⟨t,a2,fun d n' b' hx r=>a3 d n' b' (keep hx (r 0 e n b rfl hn hm hb)) (fun j e1 C T hj k1 k3 M=>?_)⟩;obtain⟨J,E⟩:=h1 (j+1) e1 C (by simpa using hj) k1 k3;rw[back E M];exact r (j+1) e1 C J (by simpa using hj) k1 k3 E
end
def xpre (pres:Ah)(o:Oper):Nat:=
 o.after.toList.foldl (fun s e=>bif Region.binds .any e then(s|||2^e.on)|||pres.getD e.on 0 else s) 0
def H2 :An->Ah->Ah
 | [],acc=>acc|o::os,acc=>H2 os (acc++ [xpre acc o])
def MY (s:Nat):Az->Nat
 | .tmp t=>s|||2^t
 |_=>s
def tY (all:An)(o:Oper):Nat:=
 o.op.operands.toList.foldl MY (match o.guard with
  |some (g,_)=>match all[g]? with
   |some p=>match p.dst with
    |some d=>2^d|none=>0
   |none=>0
  |none=>0)
structure Inf where
 o:Oper
 pre:Nat
 i:Nat
 lk:Nat
 wr:Bool
def Jy (all:An)(pres:Ah):List Inf:=((all.zip pres).zipIdx).map fun x=>⟨x.1.1,x.1.2,x.2,tY all x.1.1,Nat.beq (i4 x.1.1.op) 3⟩
def HK (o:Oper)(t:Nat):Bool:=match o.dst with|some d=>Nat.beq d t|none=>false
def s1 (pres:Ah)(x:Inf):Bool:=Nat.beq x.pre (xpre pres x.o)&&x.o.after.toList.all (fun e=> !(Region.binds .any e)||Nat.blt e.on x.i)
def s2 (x y:Inf):Bool:=
 bif Nat.beq x.i y.i then true else
  (match y.o.dst with
   |none=>true|some t=> !(HK x.o t)&&(bif x.lk.testBit t then(bif Nat.blt y.i x.i then x.pre.testBit y.i else y.pre.testBit x.i)else true))&&
  (bif x.wr&&y.wr&&Nat.blt y.i x.i then x.pre.testBit y.i else true)
def stat (all:An)(pres:Ah):Bool:=
 Nat.beq pres.length all.length&&(Jy all pres).all (s1 pres)&&(Jy all pres).all (fun x=>(Jy all pres).all (s2 x))
def isW (e:Ent):Bool:=Nat.beq (i4 e.o.op) 3
def bA (es:List Ent)(e:Ent)(k:Nat):Bool:=
 es.all fun y=>bif isW y then(bif Nat.blt y.i k then !(y.pre.testBit e.i)else !(e.pre.testBit y.i))else true
def own (es:List Ent)(e:Ent)(k:Nat):Bool:=
 es.all fun y=>bif isW y then(Nat.blt y.i k==Nat.blt y.i e.i)else true
def pJ (P:Aw)(es:List Ent)(e:Ent)(k:Nat)(S:Hp):Bool:=
 bif own es e k then true else bif bA es e k then
  (match xrd P e.tm S e.o.op with
   |some v=>veq 1000 v e.r|none=>false)
 else true
def dyn (P:Aw)(S0:Hp)(es:List Ent):Bool:=
 es.all fun e=>bif e.wt&&Nat.beq (i4 e.o.op) 1 then pJ P es e 0 S0&&es.all (fun x=>bif isW x then pJ P es e (x.i+1) x.S2 else true)else true
def U4 (P:Aw):bX:=fun call nt all tm hp=>
 bif stat all (H2 all [])then
  match xgo P call nt all hp.nx (all.zip (H2 all [])) 0 tm ⟨hp.m,hp.nx+all.length⟩ 0 []with
  |some out=>bif dyn P ⟨hp.m,hp.nx+all.length⟩ out.es then some (out.tm,takes hp.nx (iD out.I) out.es out.S)else none|none=>none
 else none
theorem tH {α:Type}(f:α->Nat->Bool)(g:Nat->α->Nat)(hg:∀s x j,(g s x).testBit j=true↔(s.testBit j=true\/f x j=true)):∀(l:List α) (s:Nat) (j:Nat),(l.foldl g s).testBit j=true↔(s.testBit j=true\/ ∃x∈l,f x j=true)
 | [],s,j=>by simp|x::l,s,j=>by rw[List.foldl_cons,tH f g hg l (g s x) j,hg];grind
theorem KZ {pres:Ah}{o:Oper}{j:Nat}(h:(xpre pres o).testBit j=true):∃e∈o.after.toList,Region.binds .any e=true/\(e.on=j\/(pres.getD e.on 0).testBit j=true):=by unfold xpre at h;rw[tH (fun(e:Edge) j=>Region.binds .any e&&(decide (e.on=j)|| (pres.getD e.on 0).testBit j))]at h;grind;grind
theorem tZ {all:An}{o:Oper}{t:Nat}:(tY all o).testBit t=true↔((∃g d p,o.guard=some (g,d)/\all[g]? =some p/\p.dst=some t)\/Operand.tmp t∈o.op.operands.toList):=by unfold tY;rw[tH (fun(x:Az) j=>match x with| .tmp t=>decide (t=j)|_=>false)];grind;intro s x j;cases x<;>simp[MY,Nat.testBit_or,Nat.testBit_two_pow]
def lst (L:Array Bool)(j:Nat):Prop:=L.getD j false=true
section
variable {P :Aw}{B:BS}{w0:Bc}{call:i8}{nt:Nat}{ops:Am}{pres:Ah}{nx0:Nat}{l:List Ent}{tm0 tmN:Ao}{S0 SN:Hp}{IN:Nat}
structure Fix (P:Aw)(call:i8)(nt:Nat)(ops:Am)(pres:Ah)(nx0:Nat)(l:List Ent)(tm0 tmN:Ao)(S0 SN:Hp)(IN:Nat):Prop where
 stat:stat ops.toList pres=true
 dyn:dyn P S0 l.reverse=true
 map:l.map (fun e=>(e.o,e.pre))=ops.toList.zip pres
 chain:O5 P call nt ops.toList nx0 tmN SN IN [] l tm0 S0 0
variable (F :Fix P call nt ops pres nx0 l tm0 tmN S0 SN IN)
include F
theorem Fix.plen :pres.length=ops.size:=by have:=F.stat;simp only[Xe.stat,Tl]at this;simp_all
def Fix.len :l.length=ops.size:=by have:=congrArg List.length F.map;simpa [F.plen]using this
variable {j:Nat}
theorem Fix.ent {o:Oper}(h:ops[j]? =some o):∃e,l[j]? =some e/\e.o=o:=by
 have hj:=(TB.1 h).1;have d:j<l.length:=by rw[F.len];exact hj
 refine⟨l[j],by grind,?_⟩;have:=congrArg (fun x=>x[j]?) F.map;grind
variable {e:Ent}
theorem Fix.at_ (h:l[j]? =some e):ops[j]? =some e.o/\e.pre=pres.getD j 0/\e.i=j:=by have hm:=congrArg (fun x=>x[j]?) F.map;simp only[Ul,h,Ug]at hm;have:=List.getElem?_zip_eq_some.1 hm.symm;refine⟨by grind,by grind,?_⟩;have:=(F.chain.get h).1;grind
theorem Fix.inf (h:l[j]? =some e):(⟨e.o,e.pre,j,tY ops.toList e.o,Nat.beq (i4 e.o.op) 3⟩:Inf)∈Jy ops.toList pres:=by have hm:=congrArg (fun x=>x[j]?) F.map;refine UO.2 ⟨((e.o,e.pre),j),?_,rfl⟩;grind
theorem Fix.p1 (h:l[j]? =some e):(∀k,e.pre.testBit k=true-> ∃d∈e.o.after.toList,Region.binds .any d=true/\(d.on=k\/(pres.getD d.on 0).testBit k=true))/\ ∀d∈e.o.after.toList,Region.binds .any d=true->d.on<j:=by have hs:=F.stat;simp only[Xe.stat,Tl,TS]at hs;have:=hs.1.2 _ (F.inf h);simp only[s1,Tl,TS,UK,Uh]at this;have he:=Tp this.1;refine⟨fun k hk=>KZ (by grind),fun d f hb=>?_⟩;rcases this.2 d f with h1|h1;grind;simp_all
variable {i:Nat}
theorem Fix.p2 {e':Ent}(hi:l[i]? =some e)(hj:l[j]? =some e')(d:i≠j):(∀t,e'.o.dst=some t->e.o.dst≠some t)/\(∀t,e'.o.dst=some t->(tY ops.toList e.o).testBit t=true->(j<i->e.pre.testBit j=true)/\(i<j->e'.pre.testBit i=true))/\(i4 e.o.op=3->i4 e'.o.op=3->j<i->e.pre.testBit j=true):=by
 have hs:=F.stat;simp only[Xe.stat,Tl,TS]at hs;have:=hs.2 _ (F.inf hi) _ (F.inf hj);simp only[s2]at this;rw[z8 d,TF,Tl]at this;obtain⟨h1,h2⟩:=this;refine⟨fun t ht f=>?_,fun t ht hl=>?_,fun k1 k2 hlt=>?_⟩;simp only[ht,Tl,Uh]at h1;have:=h1.1;simp only[HK,f]at this;simp_all
 ·simp at h1;constructor;intro hlt;simp_all
  ·intro hlt;have:Nat.blt j i=false:=by cases hb:Nat.blt j i;rfl;simp_all;omega
   grind
 rw[t9 k1,t9 k2,show Nat.blt j i=true from Ts hlt]at h2;grind
omit F
structure Inv (B:BS)(w0:Bc)(P:Aw)(call:i8)(nt:Nat)(ops:Am)(nx0:Nat)(l:List Ent)(tm0 tmN:Ao)(S0 SN:Hp)(IN:Nat)(σ0:Sg)(D:List Deferred)(L:Array Bool)(a:Act)(w:Bc)(σ:Sg)(k:Nat)(S:Hp)(I:Nat):Prop where
 size:L.size=ops.size
 down:∀j e,l[j]? =some e->lst L j-> ∀m,e.pre.testBit m=true->lst L m
 defers:a.defers=D
 tsz:a.tmps.size=nt
 tin:∀(j:Nat) e t,l[j]? =some e->lst L j->e.o.dst=some t->VR σ e.r (a.tmps.getD t undef)
 tout:∀t,(∀(j:Nat) e,l[j]? =some e->lst L j->e.o.dst≠some t)->VR σ ((tm0.get t).getD undef) (a.tmps.getD t undef)
 cut:∃tmk,O5 P call nt ops.toList nx0 tmN SN IN (l.take k).reverse (l.drop k) tmk S I
 norm:(k=0/\S=S0)\/ ∃e,0<k/\l[k-1]? =some e/\i4 e.o.op=3/\S=e.S2
 wr:∀(j:Nat) e,l[j]? =some e->i4 e.o.op=3->(lst L j↔j<k)
 hr:HR B w0 σ S w
 gr:Sg.gr nx0 S.nx σ0 σ
 room:nx0+ops.size<=S.nx
 none:∀(j:Nat) e n,l[j]? =some e->e.nw=some n-> ¬lst L j->σ (nx0+j)=none
 ext:∀(j:Nat) e n,l[j]? =some e->e.nw=some n->lst L j->I.testBit j=false-> ∃b,Ext B σ S w (nx0+j) n b
 apart:∀(j j':Nat) e e' n n' b b',l[j]? =some e->l[j']? =some e'->e.nw=some n->e'.nw=some n'->j≠j'->lst L j->lst L j'->I.testBit j=false->I.testBit j'=false->
  Ext B σ S w (nx0+j) n b->Ext B σ S w (nx0+j') n' b'->b≠b'
variable {L:Array Bool}
theorem C2 (hi:i<L.size):lst (L.setIfInBounds i true) j↔(lst L j\/j=i):=by unfold lst;by_cases h:j=i;simp_all;rw[getD_set_ne false (Ne.symm h)];simp[h]
theorem wB (h:L.getD i true=false):i<L.size/\ ¬lst L i:=by
 have hi:i<L.size:=by grind
 refine⟨hi,fun hl=>?_⟩;unfold lst at hl;grind
theorem xW {k:Nat}{tmk:Ao}{S:Hp}{I:Nat}(hc:O5 P call nt ops.toList nx0 tmN SN IN (l.take k).reverse (l.drop k) tmk S I)(he:l[i]? =some e)(hk:k<=i)(hn:∀(j:Nat) e',l[j]? =some e'->k<=j->j<i->i4 e'.o.op≠3):e.S=S/\e.I=I:=by
 have h1:(l.drop k)[i-k]? =some e:=by grind
 refine(hc.upTo h1).still fun e' hm=>?_;obtain⟨m,d⟩:=Uq.1 hm;grind
include F
theorem Fix.seen {σ0:Sg}{D:List Deferred}{a:Act}{w:Bc}{σ:Sg}{k:Nat}{S:Hp}{I:Nat}(V:Inv B w0 P call nt ops nx0 l tm0 tmN S0 SN IN σ0 D L a w σ k S I)(he:l[i]? =some e)(h:∀m,e.pre.testBit m=true->lst L m)(hi:¬lst L i){t:Nat}(ht:(tY ops.toList e.o).testBit t=true):VR σ ((e.tm.get t).getD undef) (a.tmps.getD t undef):=by
 have hp:=F.chain.upTo he;by_cases hx:∃(j:Nat) (e':Ent),j<i/\l[j]? =some e'/\e'.o.dst=some t;obtain⟨j,e',hlt,hj,d⟩:=hx;have f:=h j (((F.p2 he hj (by omega)).2.1 t d ht).1 hlt);have:=hp.tm_some (by rw[TU,TJ hlt];exact hj) d (fun m e2 hm r p=>by rw[TU]at hm;split at hm;exact(F.p2 hm hj r).1 t d p;exact absurd hm (by simp));rw[this];exact V.tin j e' t hj f d
 ·have u:∀e'∈l.take i,e'.o.dst≠some t:=by intro e' hm d;obtain⟨m,v⟩:=Uq.1 hm;grind
  rw[hp.tm_none u];refine V.tout t fun j e' hj f d=>?_;by_cases q:j=i;grind;rcases Nat.lt_or_ge j i with hlt|hge;grind;exact hi (V.down j e' hj f i (((F.p2 he hj (Ne.symm q)).2.1 t d ht).2 (by omega)))
end
theorem Ff {σ:Sg}{tm:Ao}{tmps:Al}(ops:Am)(o:Oper)(h:∀g f p d,o.guard=some (g,f)->ops.toList[g]? =some p->p.dst=some d->VR σ ((tm.get d).getD undef) (tmps.getD d undef)):Region.wanted o (yielded ops tmps)=t7 ops.toList tm o:=by
 unfold Region.wanted t7;cases hg:o.guard with
 |none=>rfl|some gw=>
  obtain⟨j,f⟩:=gw;have hy:yielded ops tmps j=fK ops.toList tm j:=by
   unfold yielded fK;rw[Array.getElem?_toList];cases hj:ops[j]? with
   |none=>rfl|some p=>
    simp;cases m:p.dst with
    |none=>rfl|some d=>
     simp;have:=h j f p d hg (by grind) m;by_cases hlt:d<tmps.size
     ·have e:tmps[d]? =some tmps[d]:=by grind
      have e2:tmps.getD d undef=tmps[d]:=by simp_all
      rw[e2]at this;rw[e];cases hg:tm.get d with
      |none=>rw[hg,Option.getD_none]at this;generalize tmps[d]=x at this;cases this<;>grind
      |some v=>rw[hg,Ud]at this;generalize tmps[d]=x at this;cases this<;>rfl
     ·have e:=Array.getElem?_eq_none (UL hlt);have e2:tmps.getD d undef=undef:=by grind
      rw[e2]at this;rw[e];cases hg:tm.get d with
      |none=>rfl|some v=>rw[hg,Ud]at this;cases this<;>grind
  grind
section
variable {P :Aw}{B:BS}{w0:Bc}{call:i8}{nt:Nat}{ops:Am}{pres:Ah}{nx0:Nat}{l:List Ent}{tm0 tmN:Ao}{S0 SN:Hp}{IN:Nat}
variable (F :Fix P call nt ops pres nx0 l tm0 tmN S0 SN IN)
include F
variable {i:Nat}
theorem Fix.before {j:Nat}{e:Ent}(hi:i<=l.length)(h:((l.take i).reverse)[j]? =some e):j<i/\l[i-1-j]? =some e/\e.i=i-1-j:=by
 have d:(l.take i).length=i:=by grind
 have hj:j<i:=by grind
 rw[List.getElem?_reverse (by omega),d,TU,TJ (by omega)]at h;exact⟨hj,h,(F.at_ h).2.2⟩
variable {σ σ0:Sg}{D:List Deferred}{L:Array Bool}{a:Act}{w:Bc}{I k:Nat}{S:Hp}
theorem Fix.takes (V:Inv B w0 P call nt ops nx0 l tm0 tmN S0 SN IN σ0 D L a w σ k S I)(hi:i<=l.length)(m:Nat->Bool)(hm:∀j,j<i->m j=true->lst L j/\I.testBit j=false):HR B w0 σ (Xe.takes nx0 m (l.take i).reverse S) w/\(Xe.takes nx0 m (l.take i).reverse S).nx=S.nx/\ ∀(j:Nat) e n b,l[j]? =some e->e.nw=some n->lst L j->I.testBit j=false->(j<i->m j=false)->Ext B σ S w (nx0+j) n b->Ext B σ (Xe.takes nx0 m (l.take i).reverse S) w (nx0+j) n b:=by
 have H:=Ol (l.take i).reverse V.hr
  (fun j e n hj hn h=>by obtain⟨h1,h2,h3⟩:=F.before hi hj;obtain⟨h4,h5⟩:=hm _ (by omega:i-1-j<i) (h3▸h);rw[h3];exact V.ext _ e n h2 hn h4 h5)
  (fun j j' e e' n n' b b' hj f J hn o h d A C=>by obtain⟨h1,h2,h3⟩:=F.before hi hj;obtain⟨E,r,p⟩:=F.before hi f;obtain⟨h4,h5⟩:=hm _ (by omega:i-1-j<i) (h3▸h);obtain⟨t,u⟩:=hm _ (by omega:i-1-j'<i) (p▸d);rw[h3]at A;rw[p]at C;exact V.apart _ _ e e' n n' b b' h2 r hn o (by omega) h4 t h5 u A C)
 refine⟨H.1,H.2.1,fun j e n b hj hn z v G hx=>H.2.2 _ n b hx fun j' e' n' b' f o d q=>?_⟩;obtain⟨E,r,p⟩:=F.before hi f;obtain⟨t,u⟩:=hm _ (by omega:i-1-j'<i) (p▸d);rw[p]at q;refine V.apart _ _ e' e n' n b' b r hj o hn ?_ t z u v q hx;grind
theorem Fix.read (V:Inv B w0 P call nt ops nx0 l tm0 tmN S0 SN IN σ0 D L a w σ k S I){e:Ent}(he:l[i]? =some e)(A:∀m,e.pre.testBit m=true->lst L m)(hi:¬lst L i)(W:e.wt=true)(K:i4 e.o.op=1):xrd P e.tm S e.o.op=some e.r:=by
 have u:e.i=i:=(F.at_ he).2.2;have d:∀ {j:Nat} {y:Ent},l[j]? =some y->y∈l.reverse:=fun h=>List.mem_reverse.2 (Tv h);have z:∀ {y:Ent},y∈l.reverse-> ∃j,l[j]? =some y/\y.i=j:=fun h=>by obtain⟨j,hj⟩:=Uq.1 (List.mem_reverse.1 h);exact⟨j,hj,(F.at_ hj).2.2⟩
 have q:bA l.reverse e k=true:=by
  unfold bA;rw[TS];intro y hy;obtain⟨j,hj,O⟩:=z hy;cases p:isW y with
  |false=>rfl|true=>
   have h3:i4 y.o.op=3:=Tp p;rw[O,u];by_cases hlt:j<k
   ·rw[show Nat.blt j k=true from Ts hlt,TE];have N:=(V.wr j y hj h3).2 hlt;cases hb:y.pre.testBit i with
    |false=>rfl|true=>exact absurd (V.down j y hj N i hb) hi
   ·have hb:Nat.blt j k=false:=by cases hb:Nat.blt j k;rfl;simp_all;omega
    rw[hb,TF];cases G:e.pre.testBit j with
    |false=>rfl|true=>exact absurd ((V.wr j y hj h3).1 (A j G)) hlt
 obtain⟨tm',S',I',hs,T⟩:=(F.chain.get he).2;have hr:=hs.k1 W K;have E:pJ P l.reverse e k S=true->xrd P e.tm S e.o.op=some e.r:=by
  intro hl;unfold pJ at hl;cases C:own l.reverse e k with
  |true=>
   have U:∀(j:Nat) y,l[j]? =some y->i4 y.o.op=3->(j<k↔j<i):=by intro j y hj h3;unfold own at C;rw[TS]at C;have:=C y (d hj);have p:isW y=true:=t9 h3;rw[p,TE,(F.at_ hj).2.2,u]at this;constructor;intro hlt;rw[show Nat.blt j k=true from Ts hlt]at this;simp_all;intro hlt;rw[show Nat.blt j i=true from Ts hlt]at this;simp_all
   have M:k<=i:=by rcases V.norm with⟨h0,_⟩| ⟨y,h0,hy,h3,_⟩;omega;grind
   obtain⟨tmk,t⟩:=V.cut;have R:=(xW t he M (by grind)).1;grind
  |false=>rw[C,TF,q,TE]at hl;split at hl;rename_i v hv;rw[hv,qD _ _ _ hl];cases hl
 have J:=F.dyn;unfold Xe.dyn at J;rw[TS]at J;have h0:=J e (d he);have f:(e.wt&&Nat.beq (i4 e.o.op) 1)=true:=by simp_all
 rw[f,TE,Tl,TS]at h0;rcases V.norm with⟨hk,R⟩| ⟨y,hk,hy,h3,R⟩;grind;have:=h0.2 y (d hy);have p:isW y=true:=t9 h3;rw[p,TE,(F.at_ hy).2.2,show k-1+1=k by omega]at this;grind
set_option maxHeartbeats 1000000 in
theorem Fix.step (ad:Q4 P call)(V:Inv B w0 P call nt ops nx0 l tm0 tmN S0 SN IN σ0 D L a w σ k S I)(hr:i∈Region.ready .any ops L)(Q:Exit->Act->Bc->Prop)(r:Ai):wpOpIn (RF r) 0 P ops Q i (fun a' w'=>∃σ' k' S' I',Inv B w0 P call nt ops nx0 l tm0 tmN S0 SN IN σ0 D (L.setIfInBounds i true) a' w' σ' k' S' I') a w:=by
 obtain⟨ck,o,ho,bc⟩:=mem_ready.1 hr;obtain⟨J,an⟩:=wB ck;obtain⟨e,he,G⟩:=F.ent ho;have cb:e.i=i:=(F.at_ he).2.2;have ay:i<l.length:=(Tn.1 he).1;have aa:∀m,e.pre.testBit m=true->lst L m:=by
  intro m hm;obtain⟨ed,bh,hb,h⟩:=(F.p1 he).1 m hm;have ci:lst L ed.on:=bc ed (by rw[<-G];simpa using bh) hb;rcases h with h|h;grind
  ·have hlt:=(F.p1 he).2 ed bh hb;have bm:ed.on<l.length:=by omega
   obtain⟨e',he'⟩:∃e',l[ed.on]? =some e':=⟨l[ed.on],by simp[bm]⟩
   exact V.down ed.on e' he' ci m (by rw[(F.at_ he').2.1];exact h)
 obtain⟨tm',S',I',hs,ca⟩:=(F.chain.get he).2;simp only[UV]at hs ca;have au:∃tmk,O5 P call nt ops.toList nx0 tmN SN IN (l.take (i+1)).reverse (l.drop (i+1)) tmk S' I':=by
  refine⟨tm',?_⟩;have:e::(l.take i).reverse=(l.take (i+1)).reverse:=by rw[List.take_succ_eq_append_getElem ay,List.reverse_append];grind
  grind
 have ao:∀t,(tY ops.toList o).testBit t=true->VR σ ((e.tm.get t).getD undef) (a.tmps.getD t undef):=fun t ht=>F.seen V he aa an (by rw[G];exact ht);have ap:∀x∈o.op.operands,∀v,c9 e.tm x=some v->VR σ v (a.eval x):=by
  intro x hx v hv;cases x with
  |tmp t=>simp only[c9,Tk]at hv;subst hv;exact ao t (tZ.2 (.inr (by simpa using hx)))|const c=>
   simp only[c9]at hv;cases hc:cst c with
   |false=>grind|true=>simp[hc]at hv;subst hv;exact eA σ hc
  |global g=>simp[c9]at hv|func f=>simp only[c9,Tk]at hv;subst hv;exact .func _ _ _ _ _ rfl (fun i x y h _=>by simp at h) rfl (fun i x y h _=>by simp at h)
 have bb:Region.wanted o (yielded ops a.tmps)=e.wt:=by rw[hs.wt,G];exact Ff ops o fun g bu p d hg hp hd=>ao d (tZ.2 (.inl ⟨g,bu,p,hg,hp,hd⟩))
 have bg:∀(j:Nat) e' t,l[j]? =some e'->j≠i->e'.o.dst=some t->o.dst≠some t:=fun j e' t hj Z ht=>by rw[<-G];exact(F.p2 he hj (Ne.symm Z)).1 t ht
 have build:∀(u:Av) (σ':Sg) (w':Bc) (k':Nat) (S2:Hp) (I2:Nat),Sg.le σ σ'->VR σ' e.r u->
   (∃tmk,O5 P call nt ops.toList nx0 tmN SN IN (l.take k').reverse (l.drop k') tmk S2 I2)->
   ((k'=0/\S2=S0)\/ ∃e,0<k'/\l[k'-1]? =some e/\i4 e.o.op=3/\S2=e.S2)->
   (∀(j:Nat) e,l[j]? =some e->i4 e.o.op=3->(lst (L.setIfInBounds i true) j↔j<k'))->
   HR B w0 σ' S2 w'->Sg.gr nx0 S2.nx σ0 σ'->nx0+ops.size<=S2.nx->
   (∀(j:Nat) e n,l[j]? =some e->e.nw=some n-> ¬lst (L.setIfInBounds i true) j->σ' (nx0+j)=none)->
   (∀(j:Nat) e n,l[j]? =some e->e.nw=some n->lst (L.setIfInBounds i true) j->I2.testBit j=false-> ∃b,Ext B σ' S2 w' (nx0+j) n b)->
   (∀(j j':Nat) e e' n n' b b',l[j]? =some e->l[j']? =some e'->e.nw=some n->e'.nw=some n'->j≠j'->lst (L.setIfInBounds i true) j->lst (L.setIfInBounds i true) j'->I2.testBit j=false->I2.testBit j'=false->
    Ext B σ' S2 w' (nx0+j) n b->Ext B σ' S2 w' (nx0+j') n' b'->b≠b')->
   Inv B w0 P call nt ops nx0 l tm0 tmN S0 SN IN σ0 D (L.setIfInBounds i true) (a.put o.dst u) w' σ' k' S2 I2:=by
  intro u σ' w' k' S2 I2 ai hv h1 h2 h3 h4 h5 h6 h7 h8 h9;have av:∀t,o.dst≠some t->(a.put o.dst u).tmps.getD t undef=a.tmps.getD t undef:=by
   intro t ht;cases hd:o.dst with
   |none=>rfl|some d=>have Z:d≠t:=fun h=>ht (by rw[hd,h]);simp[Act.put,Array.getElem?_setIfInBounds_ne Z]
  have az:∀t,o.dst=some t->(a.put o.dst u).tmps.getD t undef=u:=by
   intro t ht;have hb:B6 nt o.dst=true:=by rw[<-G];exact hs.dst
   rw[ht]at hb⊢;have hlt:t<a.tmps.size:=by rw[V.tsz];exact To hb
   simp[Act.put,hlt]
  refine⟨by simpa using V.size,?_,by rw[lP];exact V.defers,?_,?_,?_,h1,h2,h3,h4,h5,h6,h7,h8,h9⟩;intro j e' hj A m hm;rw[C2 J]at A⊢;rcases A with A|rfl;exact .inl (V.down j e' hj A m hm);have:e'=e:=TN (hj.symm.trans he);subst this;exact .inl (aa m hm);cases hd:o.dst<;>simp[Act.put,V.tsz];intro j e' t hj A ht;rw[C2 J]at A;by_cases E:j=i;subst E;have:e'=e:=TN (hj.symm.trans he);subst this;rw[az t (by rw[<-G];exact ht)];exact hv;rw[av t (bg j e' t hj E ht)];exact(V.tin j e' t hj (A.resolve_right E) ht).mono ai
  ·intro t bl;have cg:o.dst≠some t:=by rw[<-G];exact bl i e he ((C2 J).2 (.inr rfl))
   rw[av t cg];exact(V.tout t fun j e' hj A=>bl j e' hj ((C2 J).2 (.inl A))).mono ai
 have al:∀(u:Av) (σ':Sg) (w':Bc),i4 o.op≠3->(e.nw=none)->Sg.gr S.nx S.nx σ σ'->VR σ' e.r u->HR (rest B σ S w) w σ' S w'->
   ∃σ' k' S' I',Inv B w0 P call nt ops nx0 l tm0 tmN S0 SN IN σ0 D (L.setIfInBounds i true) (a.put o.dst u) w' σ' k' S' I':=by
  intro u σ' w' hk R O hv bi;refine⟨σ',k,S,I,build u σ' w' k S I O.le hv V.cut V.norm (fun j e' hj h3=>?_) (V.hr.back bi) (VT V.gr O) V.room (fun j e' n hj hn A=>?_) (fun j e' n hj hn A hI=>?_) (fun j j' e1 e2 n1 n2 b1 b2 hj T M N Z X Y U W x1 x2=>?_)⟩;rw[C2 J,<-V.wr j e' hj h3];constructor;rintro (h|rfl);exact h;have:e'=e:=TN (hj.symm.trans he);subst this;exact absurd h3 (by rw[G];exact hk);exact .inl;have bk:¬lst L j:=fun h=>A ((C2 J).2 (.inl h));have cf:j<l.length:=(Tn.1 hj).1;rw[O.low _ (by have:=V.room;have:=F.len;omega)];exact V.none j e' n hj hn bk
  ·have E:j≠i:=by rintro rfl;rw[TN (hj.symm.trans he),R]at hn;cases hn
   rw[C2 J]at A;obtain⟨b,hb⟩:=V.ext j e' n hj hn (A.resolve_right E) hI;exact⟨b,hb.step bi O.le⟩
  ·have E:j≠i:=by rintro rfl;rw[TN (hj.symm.trans he),R]at M;cases M
   have K:j'≠i:=by rintro rfl;rw[TN (T.symm.trans he),R]at N;cases N
   rw[C2 J]at X Y;obtain⟨c1,y1⟩:=V.ext j e1 n1 hj M (X.resolve_right E) U;obtain⟨c2,y2⟩:=V.ext j' e2 n2 T N (Y.resolve_right K) W;have ab:∀ {id:Nat} {n:Nw} {b c:Nat},Ext B σ S w id n c->Ext B σ' S w' id n b->b=c:=by intro id n b c hx hy;obtain⟨p,_,p1,p2,_⟩:=hx;obtain⟨q,_,q1,q2,_⟩:=hy;have:=(O.le _ _ p1).symm.trans q1;have:p=q:=TN this;rw[<-p2,<-q2,this]
   rw[ab y1 x1,ab y2 x2];exact V.apart j j' e1 e2 n1 n2 c1 c2 hj T M N Z (X.resolve_right E) (Y.resolve_right K) U W y1 y2
 have bt:i4 o.op=3->e.S=S/\e.I=I/\k<=i/\ ∀(j:Nat) e',l[j]? =some e'->i4 e'.o.op=3->(lst (L.setIfInBounds i true) j↔j<i+1):=by
  intro h3;have ac:i4 e.o.op=3:=by rw[G];exact h3
  have aq:k<=i:=by rcases Nat.lt_or_ge i k with h|h;exact absurd ((V.wr i e he ac).2 h) an;exact h
  obtain⟨tmk,be⟩:=V.cut;have hlt:∀(j:Nat) e',l[j]? =some e'->i4 e'.o.op=3->j<i->lst L j:=fun j e' hj k3 hlt=>aa j ((F.p2 he hj (by omega)).2.2 ac k3 hlt);have bq:=xW be he aq (fun j e' hj h1 h2 k3=>by have:=(V.wr j e' hj k3).1 (hlt j e' hj k3 h2);omega);refine⟨bq.1,bq.2,aq,fun j e' hj k3=>?_⟩;rw[C2 J];constructor;rintro (h|rfl);rcases Nat.lt_or_ge i j with h'|h';exact absurd (V.down j e' hj h i ((F.p2 hj he (by omega)).2.2 k3 ac h')) an;omega;omega;intro h;by_cases E:j=i;exact .inr E;exact .inl (hlt j e' hj k3 (by omega))
 unfold wpOpIn;simp only[ho];rw[bb];cases ak:e.wt with
 |false=>
  rw[TH (by simp)];refine⟨fun _ _=>trivial,?_⟩;obtain⟨bn,R⟩:=hs.un ak;by_cases h3:i4 o.op=3
  ·obtain⟨e1,e2,aq,ba⟩:=bt h3;obtain⟨l1,l2⟩:=hs.low (.inl ak);have ac:i4 e.o.op=3:=by rw[G];exact h3
   refine⟨σ,i+1,S',I',build undef σ w (i+1) S' I' (Sg.le_refl σ) (by rw[bn];exact Wg σ) au (.inr ⟨e,by omega,he,ac,hs.S2.symm⟩) ba
    (by rw[l1,e1];exact V.hr) (by rw[l1,e1];exact V.gr) (by rw[l1,e1];exact V.room) (fun j e' n hj hn A=>?_) (fun j e' n hj hn A hI=>?_) (fun j j' f1 f2 n1 n2 b1 b2 hj T M N Z X Y U W x1 x2=>?_)⟩
   exact V.none j e' n hj hn (fun h=>A ((C2 J).2 (.inl h)))
   ·have E:j≠i:=by rintro rfl;rw[TN (hj.symm.trans he),R]at hn;cases hn
    rw[C2 J]at A;rw[l1,e1];rw[l2,e2]at hI;exact V.ext j e' n hj hn (A.resolve_right E) hI
   ·have E:j≠i:=by rintro rfl;rw[TN (hj.symm.trans he),R]at M;cases M
    have K:j'≠i:=by rintro rfl;rw[TN (T.symm.trans he),R]at N;cases N
    rw[C2 J]at X Y;rw[l1,e1]at x1 x2;rw[l2,e2]at U W;exact V.apart j j' f1 f2 n1 n2 b1 b2 hj T M N Z (X.resolve_right E) (Y.resolve_right K) U W x1 x2
  exact al undef σ w h3 R (VS _ σ) (by rw[bn];exact Wg σ) V.hr.max
 |true=>
  rw[TJ rfl];by_cases h0:i4 o.op=0;have hx:=hs.k0 ak (by rw[G];exact h0) S;rw[G]at hx;exact jQ ad hx ap V.hr.max _ Q (fun σ' u w' O hv aj=>al u σ' w' (by omega) (hs.nw (by rw[G];omega)) O hv aj) r;by_cases h1:i4 o.op=1;have hx:=Qe (call:=call) (by rw[G];exact h1) (F.read V he aa an ak (by rw[G];exact h1));rw[G]at hx;exact jQ ad hx ap V.hr.max _ Q (fun σ' u w' O hv aj=>al u σ' w' (by omega) (hs.nw (by rw[G];omega)) O hv aj) r;by_cases h2:i4 o.op=2
  ·obtain⟨n,hx,cj,R⟩:=hs.k2 ak (by rw[G];exact h2);rw [G] at hx;obtain ⟨sm,cd,bj,ob,siz,z,bw,bp⟩:=zZ (σ:=σ) hx ap;have ax : σ (nx0+i)=none:=V.none i e n he R an;have hlt : nx0+i < S.nx:=by have:=V.room; have:=F.len; omega
   obtain⟨X,Y⟩:=V.hr.lay ax hlt n (p:=⟨w.heap.size,0,siz,z⟩) rfl (bw _);have ai:=VU (σ:=σ) (i:=nx0+i) ⟨w.heap.size,0,siz,z⟩ ax;refine j4 (fun c hc=>by rw[hc]at h2;cases h2) ?_;unfold Oper.wp;rw[cd,TQ,bp w,TM,TV,Vb];refine⟨_,k,S,I,build _ _ _ k S I ai ?_ V.cut V.norm (fun j e' hj h3=>?_) X ⟨Sg.le_trans V.gr.le ai,fun j hj=>(VO _ _ _ (by omega)).trans (V.gr.low j hj),V.gr.nx⟩ V.room (fun j e' n' hj hn A=>?_) (fun j e' n' hj hn A hI=>?_)
    (fun j j' f1 f2 n1 n2 b1 b2 hj T M N Z ae ah U W x1 x2=>?_)⟩
   rw[cj,cb];exact Nw.val_VR bj _ _ _ _;rw[C2 J,<-V.wr j e' hj h3];constructor;rintro (h|rfl);exact h;have:e'=e:=TN (hj.symm.trans he);subst this;rw[G]at h3;omega;exact .inl
   ·have E:j≠i:=by rintro rfl;exact A ((C2 J).2 (.inr rfl))
    rw[VO _ _ _ (by omega)];exact V.none j e' n' hj hn (fun h=>A ((C2 J).2 (.inl h)))
   by_cases E:j=i;subst E;have:e'=e:=TN (hj.symm.trans he);subst this;have:n'=n:=TN (hn.symm.trans R);subst this;exact⟨_,Y⟩;rw[C2 J]at A;obtain⟨b,hb⟩:=V.ext j e' n' hj hn (A.resolve_right E) hI;exact⟨b,hb.lay V.hr ax _ _⟩
   ·
    have old:∀(j:Nat) (f:Ent) (n':Nw) (b:Nat),l[j]? =some f->f.nw=some n'->j≠i->lst (L.setIfInBounds i true) j->I.testBit j=false->
      Ext B (σ.ext (nx0+i) ⟨w.heap.size,0,siz,z⟩) S (w.alloc ob) (nx0+j) n' b->Ext B σ S w (nx0+j) n' b/\b<w.heap.size:=by
     intro j f n' b hj hn E A hI hx;rw[C2 J]at A;obtain⟨c,hc⟩:=V.ext j f n' hj hn (A.resolve_right E) hI;have bz:=hc;obtain⟨p,C,p1,p2,p5,_⟩:=hc;obtain⟨q,_,q1,q2,_⟩:=hx;have:=(ai _ _ p1).symm.trans q1;have:p=q:=TN this;have bv:b=c:=by rw[<-p2,<-q2,this]
     subst bv;exact⟨bz,(TB.1 p5).1⟩
    have new:∀(n':Nw) (b:Nat),Ext B (σ.ext (nx0+i) ⟨w.heap.size,0,siz,z⟩) S (w.alloc ob) (nx0+i) n' b->b=w.heap.size:=by intro n' b hx;obtain⟨q,_,q1,q2,_⟩:=hx;rw[VQ]at q1;rw[<-q2,<-TN q1]
    by_cases E:j=i;subst E;have ce:j'≠j:=Ne.symm Z;have:=(old j' f2 n2 b2 T N ce ah W x2).2;rw[new n1 b1 x1];omega;by_cases K:j'=i;subst K;have:=(old j f1 n1 b1 hj M E ae U x1).2;rw[new n2 b2 x2];omega;have o1:=(old j f1 n1 b1 hj M E ae U x1).1;have o2:=(old j' f2 n2 b2 T N K ah W x2).1;rw[C2 J]at ae ah;exact V.apart j j' f1 f2 n1 n2 b1 b2 hj T M N Z (ae.resolve_right E) (ah.resolve_right K) U W o1 o2
  ·
   have h3:i4 o.op=3:=by have:=nM o.op;omega
   have ac:i4 e.o.op=3:=by rw[G];exact h3
   obtain⟨e1,e2,aq,ba⟩:=bt h3;obtain⟨hx,aw⟩:=hs.k3 ak (by omega);rw[G,e1,e2]at hx;rw[e2]at aw;obtain⟨T1,T2,T3⟩:=F.takes V (i:=i) (by omega) (lV e.pre I) (fun j hj hm=>by simp only[lV,Tl,Uh]at hm;exact⟨aa j hm.1,hm.2⟩);refine jQ ad hx ap T1.max _ Q (fun σ' u w' O hv aj=>?_) r;rw[T2]at O;have keep:∀(j:Nat) (f:Ent) (n:Nw),l[j]? =some f->f.nw=some n->lst L j->I'.testBit j=false-> ∃b,Ext B σ S w (nx0+j) n b/\Ext B σ' S' w' (nx0+j) n b:=by intro j f n hj hn A hI;rw[aw,Nat.testBit_or,Vl]at hI;obtain⟨b,hb⟩:=V.ext j f n hj hn A hI.1;exact⟨b,hb,(T3 j f n b hj hn A hI.1 (fun _=>by simp[lV,hI.2]) hb).step aj O.le⟩
   have R:e.nw=none:=hs.nw (by omega);refine⟨σ',i+1,S',I',build u σ' w' (i+1) S' I' O.le hv au (.inr ⟨e,by omega,he,ac,hs.S2.symm⟩) ba (T1.back aj) (VT V.gr O) (by have:=V.room;have:=O.nx;omega) (fun j e' n hj hn A=>?_) (fun j e' n hj hn A hI=>?_)
    (fun j j' f1 f2 n1 n2 b1 b2 hj T M N Z X Y U W x1 x2=>?_)⟩
   have cf:j<l.length:=(Tn.1 hj).1;rw[O.low _ (by have:=V.room;have:=F.len;omega)];exact V.none j e' n hj hn (fun h=>A ((C2 J).2 (.inl h)))
   ·have E:j≠i:=by rintro rfl;rw[TN (hj.symm.trans he),R]at hn;cases hn
    rw[C2 J]at A;obtain⟨b,_,hb⟩:=keep j e' n hj hn (A.resolve_right E) hI;exact⟨b,hb⟩
   ·have E:j≠i:=by rintro rfl;rw[TN (hj.symm.trans he),R]at M;cases M
    have K:j'≠i:=by rintro rfl;rw[TN (T.symm.trans he),R]at N;cases N
    rw[C2 J]at X Y;obtain⟨c1,y1,z1⟩:=keep j f1 n1 hj M (X.resolve_right E) U;obtain⟨c2,y2,z2⟩:=keep j' f2 n2 T N (Y.resolve_right K) W;have ab:∀ {id:Nat} {n:Nw} {b c:Nat},Ext B σ' S' w' id n c->Ext B σ' S' w' id n b->b=c:=by intro id n b c hx hy;obtain⟨p,_,p1,p2,_⟩:=hx;obtain⟨q,_,q1,q2,_⟩:=hy;have:p=q:=TN (p1.symm.trans q1);rw[<-p2,<-q2,this]
    rw[ab z1 x1,ab z2 x2];rw[aw,Nat.testBit_or,Vl]at U W;exact V.apart j j' f1 f2 n1 n2 c1 c2 hj T M N Z (X.resolve_right E) (Y.resolve_right K) U.1 W.1 y1 y2
theorem Fix.all (m:L.size=ops.size)(hr:Region.ready .any ops L=[]):∀j,j<ops.size->lst L j:=by
 intro j;induction j using Nat.strongRecOn with
 |_ j p=>
  intro hj;by_cases hl:lst L j;grind
  ·exfalso;have hm:j∈Region.ready .any ops L:=by refine mem_ready.2 ⟨?_,ops[j],by grind,fun d f hb=>?_⟩;unfold lst at hl;grind;obtain⟨e,he,h⟩:=F.ent (o:=ops[j]) (j:=j) (by simp);have:=(F.p1 he).2 d (by grind) hb;exact p d.on this (by omega)
   grind
theorem Fix.ends (V:Inv B w0 P call nt ops nx0 l tm0 tmN S0 SN IN σ0 D L a w σ k S I)(q:∀j,j<ops.size->lst L j):fW nx0 B w0 σ0 nt .normal tmN (Xe.takes nx0 (iD IN) l.reverse SN) D .normal a w:=by
 obtain⟨tmk,r⟩:=V.cut;have d:∀ {j:Nat} {e:Ent},l[j]? =some e->lst L j:=fun h=>q _ (by have:=(Tn.1 h).1;have:=F.len;omega);have p:=r.still (fun e hm=>by obtain⟨m,f⟩:=Uq.1 hm;rw[Ua]at f;intro h3;have:=(V.wr _ e f h3).1 (d f);omega);obtain⟨v,z,_⟩:=F.takes V (TK _) (iD IN) (fun j hj hm=>by
  have:l[j]? =some l[j]:=by grind
  refine⟨d this,?_⟩;rw[<-p.2];simpa [iD]using hm)
 rw[List.take_length]at v z;rw[<-p.1]at v z;refine⟨rfl,V.defers,σ,by rw[z,p.1];exact V.gr,⟨V.tsz,fun t=>?_⟩,v⟩;by_cases hx:∃(j:Nat) (e:Ent),l[j]? =some e/\e.o.dst=some t;obtain⟨j,e,hj,u⟩:=hx;rw[F.chain.tm_some hj u (fun m e2 hm C A=>(F.p2 hm hj C).1 t u A)];exact V.tin j e t hj (d hj) u;rw[F.chain.tm_none (fun e he u=>by obtain⟨m,hm⟩:=Uq.1 he;exact hx ⟨m,e,hm,u⟩)];exact V.tout t (by grind)
omit F
def rD (L:Array Bool):Nat:=(L.toList.filter (fun b=> !b)).length
theorem tF :∀(l:List Bool) (i:Nat),l[i]? =some false->((l.set i true).filter (fun b=> !b)).length+1=(l.filter (fun b=> !b)).length
 | [],i,h=>by grind|b::l,0,h=>by grind|b::l,i+1,h=>by have:=tF l i (by grind);grind
theorem nQ (h:L.getD i true=false):rD (L.setIfInBounds i true)+1=rD L:=by have hi:=(wB h).1;unfold rD;rw[Array.toList_setIfInBounds];refine tF L.toList i ?_;simp_all
include F
theorem Fix.any (f:Q4 P call)(r:Ai):∀(d:Nat) (L:Array Bool) (a:Act) (w:Bc) (σ:Sg) (k:Nat) (S:Hp) (I:Nat),rD L=d->Inv B w0 P call nt ops nx0 l tm0 tmN S0 SN IN σ0 D L a w σ k S I->wpAnyIn (RF r) 0 P .any ops (fW nx0 B w0 σ0 nt .normal tmN (Xe.takes nx0 (iD IN) l.reverse SN) D) d L a w:=by
 intro d;induction d with
 |zero=>
  intro L a w σ k S I hf V;have hr:Region.ready .any ops L=[]:=by
   cases m:Region.ready .any ops L with
   |nil=>rfl|cons i r=>
    have:i∈Region.ready .any ops L:=by grind
    have:=nQ (mem_ready.1 this).1;omega
  exact⟨hr,F.ends V (F.all V.size hr)⟩
 |succ d o=>intro L a w σ k S I hf V;refine⟨fun hr=>F.ends V (F.all V.size hr),fun i hi=>?_⟩;have h:=nQ (mem_ready.1 hi).1;refine wpOpIn_mono (fun a' w' hV=>?_) (F.step f V hi _ r);grind
end
variable {P:Aw}
def qF {call:i8}(f:Q4 P call){nt:Nat}{ops:Am}{tm:Ao}{hp:Hp}{tm':Ao}{hp':Hp}(h:U4 P call nt ops.toList tm hp=some (tm',hp')){B:BS}{w0:Bc}{σ:Sg}{a:Act}{w:Bc}(ht:TR σ nt tm a.tmps)(v:HR B w0 σ hp w)(r:Ai):wpAnyIn (RF r) 0 P .any ops (fW hp.nx B w0 σ nt .normal tm' hp' a.defers) ops.size (Array.replicate ops.size false) a {w with drawn:=w.drawn+1}:=by
 unfold U4 at h;cases q:stat ops.toList (H2 ops.toList [])with
 |false=>rw[q]at h;cases h
 |true=>
  rw[q,TE]at h;split at h
  ·rename_i out u;cases o:dyn P ⟨hp.m,hp.nx+ops.toList.length⟩ out.es with
   |false=>rw[o]at h;cases h
   |true=>
    rw[o,TE]at h;simp only[Tk,Tm]at h;obtain⟨rfl,rfl⟩:=h;obtain⟨l,h1,h2,h3⟩:=KP _ 0 tm _ 0 [] out u rfl;rw[UV]at h1;have F:Fix P call nt ops (H2 ops.toList []) hp.nx l tm out.tm ⟨hp.m,hp.nx+ops.toList.length⟩ out.S out.I:=⟨q,by rw[<-h1];exact o,h2,h3⟩
    rw[h1];have p:rD (Array.replicate ops.size false)=ops.size:=by simp[rD]
    refine F.any (B:=B) (w0:=w0) (σ0:=σ) f r ops.size _ a _ σ 0 ⟨hp.m,hp.nx+ops.toList.length⟩ 0 p ?_;have d:∀j,¬lst (Array.replicate ops.size false) j:=by intro j hl;unfold lst at hl;by_cases hj:j<ops.size<;>simp[hj]at hl
    have hr:HR B w0 σ ⟨hp.m,hp.nx+ops.toList.length⟩ w.drew:=
     v.drew.sub (Nat.le_add_right _ _) fun i b hg=>hg
    refine⟨by simp,fun j e hj hl=>absurd hl (d j),rfl,ht.size,fun j e t hj hl=>absurd hl (d j),fun t _=>ht.at_ t,⟨tm,by simpa using h3⟩,.inl ⟨rfl,rfl⟩,fun j e hj _=>⟨fun h=>absurd h (d j),fun h=>by omega⟩,
     hr,⟨Sg.le_refl σ,fun _ _=>rfl,by simp⟩,by simp,fun j e n hj hn _=>?_,fun j e n hj hn hl=>absurd hl (d j),fun j j' e e' n n' b b' hj z hn A C hl=>absurd hl (d j)⟩
    exact v.fresh _ (by omega)
  cases h
def Oy (hm:P.follows .mixedOrders=true):kU P (U4 P):=
 fun _ d _ _ _ _ _ _ _ h _ _ _ _ _ ht f r=>wpIn_region_any hm (qF d h ht f r)
end Go.Xe
namespace Go.Xe
open Go.RowKit
def Fh (ops:Am)(l:Ah):Prop:=
 ∀l1 i l2,l=l1++i::l2-> ∃o,ops[i]? =some o/\ ∀e∈o.after,Region.binds .any e=true->e.on∈l1
structure V1 (ops:Am)(l:Ah):Prop where
 nodup:l.Nodup
 mem:∀i,i∈l↔i<ops.size
 behind:Fh ops l
variable {P:Aw}{ops:Am}{Q:Exit->Act->Bc->Prop}{l:Ah}
theorem oJ {r:Ai}(hl:V1 ops l):∀(m f:Ah) (L:Array Bool) (d:Nat) (a:Act) (w:Bc),l=f++m->L.size=ops.size->(∀j,j<ops.size->(L.getD j false=true↔j∈f))->wpAnyIn (RF r) 0 P .any ops Q d L a w->wpOpsIn (RF r) 0 P ops Q m a w:=by
 intro m;induction m with
 |nil=>
  intro f L d a w he hs hL h;rw[UV]at he;subst he;have hr:Region.ready .any ops L=[]:=by
   cases E:Region.ready .any ops L with
   |nil=>rfl|cons i K=>
    have hi:i∈Region.ready .any ops L:=by grind
    obtain⟨G,o,v,_⟩:=mem_ready.1 hi;have hlt:=(TB.1 v).1;have h1:=(hL i hlt).2 ((hl.mem i).2 hlt);grind
  cases d with
  |zero=>exact h.2|succ d=>exact h.1 hr
 |cons i m J=>
  intro f L d a w he hs hL h;have q:i∈l:=by grind
  have hlt:=(hl.mem i).1 q;obtain⟨o,v,p⟩:=hl.behind f i m he;have A:i∉f:=by intro hc;have:=hl.nodup;grind
  have hi:i∈Region.ready .any ops L:=by refine mem_ready.2 ⟨?_,o,v,fun e t hb=>?_⟩;grind;have C:=p e t hb;have z:e.on<ops.size:=(hl.mem _).1 (by grind);grind
  cases d with
  |zero=>rw[h.1]at hi;cases hi
  |succ d=>
   refine wpOpIn_mono (fun a' w' hh=>J (f++ [i]) (L.setIfInBounds i true) d a' w' (by grind) (by grind) (fun j hj=>?_) hh) (h.2 i hi);have u:i<L.size:=by omega
   have:=C2 (j:=j) u;unfold lst at this;grind
theorem Kj {L:Array Bool}(f:L.size=ops.size)(d:∀(i:Nat) o,ops[i]? =some o-> ∀e∈o.after,Region.binds .any e=true->e.on<i)(hr:Region.ready .any ops L=[]):∀j,j<ops.size->L.getD j false=true:=by
 intro j;induction j using Nat.strongRecOn with
 |_ j h=>
  intro hj;cases hg:L.getD j false with
  |true=>rfl|false=>
   have hm:j∈Region.ready .any ops L:=by refine mem_ready.2 ⟨?_,ops[j],by grind,fun e he hb=>?_⟩;grind;grind
   grind
theorem Jx (h:∀(i:Nat) o,ops[i]? =some o-> ∀e∈o.after,Region.binds .any e=true->e.on<i):∀(f t:Nat) (L:Array Bool) (d:Ah),L.size=ops.size->(∀j,j<ops.size->(L.getD j false=true↔j∈d))->d.Nodup->(∀i∈d,i<ops.size)->Fh ops d->rD L<=f->V1 ops (Region.linearise.go .any ops f t L d.reverse):=by
 intro f;have done:∀(L:Array Bool) (d:Ah),L.size=ops.size->(∀j,j<ops.size->(L.getD j false=true↔j∈d))->d.Nodup->(∀i∈d,i<ops.size)->Fh ops d->Region.ready .any ops L=[]->V1 ops d:=by intro L d hs hL hn hm hb hr;exact⟨hn,fun i=>⟨hm i,fun hi=>(hL i hi).1 (Kj hs h hr i hi)⟩,hb⟩
 induction f with
 |zero=>
  intro t L d hs hL hn hm hb v;simp only[Region.linearise.go,List.reverse_reverse];refine done L d hs hL hn hm hb ?_;cases C:Region.ready .any ops L with
  |nil=>rfl|cons i J=>
   have hi:i∈Region.ready .any ops L:=by grind
   have:=nQ (mem_ready.1 hi).1;omega
 |succ f G=>
  intro t L d hs hL hn hm hb v;change V1 ops (match(Region.ready .any ops L)[t % (Region.ready .any ops L).length]? with
   |some i=>Region.linearise.go .any ops f (t/ (Region.ready .any ops L).length) (L.setIfInBounds i true) (i::d.reverse)|none=>d.reverse.reverse)
  cases hi:(Region.ready .any ops L)[t % (Region.ready .any ops L).length]? with
  |none=>
   have u:Region.ready .any ops L=[]:=by
    cases hr:Region.ready .any ops L with
    |nil=>rfl| cons x xs =>have hlt:t % (x::xs).length<(x::xs).length:=Nat.mod_lt _ (by simp);grind
   grind
  |some i=>
   have p:=Tv hi;obtain⟨m,o,q,r⟩:=mem_ready.1 p;have hlt:=(TB.1 q).1;have E:=wB m;have A:=nQ m;have e1:i::d.reverse=(d++ [i]).reverse:=by simp
   simp only[];rw[e1];refine G _ (L.setIfInBounds i true) (d++ [i]) (by grind) (fun j hj=>?_) ?_ ?_ ?_ (by omega);have:=C2 (j:=j) E.1;unfold lst at this;grind;grind;grind
   ·intro k1 j k2 he;rcases List.eq_nil_or_concat k2 with rfl| ⟨k3,z,rfl⟩
    ·have h1:d=k1/\i=j:=by simp_all
     grind
    ·have h1:d=k1++j::k3:=by simp_all
     exact hb k1 j k3 h1
theorem rT (d:∀(i:Nat) o,ops[i]? =some o-> ∀e∈o.after,Region.binds .any e=true->e.on<i)(t:Nat):V1 ops (Region.schedule true ops t):=by refine Jx d ops.size t (Array.replicate ops.size false) [] (by simp) (fun j hj=>?_) (by simp) (fun i hi=>by grind) (fun k1 i k2 he=>by simp at he) ?_;simp[hj];simp[rD]
def j6 (ops:Am)(x y:Nat)(g:Ground):Am:=ops.modify y fun o=> {o with after:=o.after.push ⟨x,g⟩}
variable {x y:Nat}{g:Ground}
theorem U2 {i:Nat}:(j6 ops x y g)[i]? =if y=i then(ops[i]?).map fun o=> {o with after:=o.after.push ⟨x,g⟩}else ops[i]? :=by unfold j6;grind
theorem V1.edge {f m:Ah}(h:V1 ops (f++y::m))(hx:x∈f):V1 (j6 ops x y g) (f++y::m):=by
 refine⟨h.nodup,fun i=>by rw[h.mem i];simp[j6],fun k1 i k2 he=>?_⟩;obtain⟨o,r,v⟩:=h.behind k1 i k2 he;rw[U2];by_cases hi:y=i
 ·subst hi;rw[TJ rfl,r];refine⟨_,rfl,fun e d hb=>?_⟩;rcases Array.mem_push.1 d with d|rfl;grind
  ·have t:y∉f:=fun hc=>by have:=h.nodup;grind
   have u:y∉k1:=fun hc=>by have:=h.nodup;grind
   have e1:f=k1:=by
    rcases List.append_eq_append_iff.1 he with⟨c,p,q⟩| ⟨c,p,q⟩
    ·cases c with
     |nil=>grind|cons c0 c=>grind
    ·cases c with
     |nil=>grind|cons c0 c=>grind
   grind
 grind
theorem V1.first (h:V1 ops l)(hx:x<ops.size)(hy:y<ops.size)(o:x≠y):(∃d m,l=d++y::m/\x∈d)\/(∃d m,l=d++x::m/\y∈d):=by obtain⟨d,m,e⟩:=List.append_of_mem ((h.mem y).2 hy);have f:=(h.mem x).2 hx;rw[e]at f;rcases TY.1 f with h1|h1;grind;rcases TZ.1 h1 with h1|h1;grind;obtain⟨p,q,e2⟩:=List.append_of_mem h1;grind
structure Ld (ops ops':Am)(ρ:Nat->Nat):Prop where
 get:∀(i:Nat) o,ops[i]? =some o-> ∃o',ops'[ρ i]? =some o'/\o'.op=o.op/\o'.dst=o.dst/\o'.type=o.type/\o'.guard=o.guard.map (fun g=>(ρ g.1,g.2))
 yielded:∀tmps (i:Nat) o g,ops[i]? =some o->o.guard=some g->yielded ops' tmps (ρ g.1)=yielded ops tmps g.1
variable {n:Nat}{w:Bc}
def He {F:Fence}{o o':Oper}{a:Act}{K:Act->Bc->Prop}(h1:o'.op=o.op)(h2:o'.dst=o.dst)(h3:o'.type=o.type)(h:o'.wpIn F n P a w K Q):o.wpIn F n P a w K Q:=by obtain⟨q,f,p,m,d,g'⟩:=o';subst h1 h2 h3;exact h
theorem P9 {F:Fence}{n:Nat}{P:Aw}{ops ops':Am}{ρ:Nat->Nat}(m:Ld ops ops' ρ){Q:Exit->Act->Bc->Prop}:∀(l:Ah) {a:Act} {w:Bc},(∀i∈l,i<ops.size)->wpOpsIn F n P ops' Q (l.map ρ) a w->wpOpsIn F n P ops Q l a w
 | [],_,_,_,h=>h|i::l,a,w,hl,h=>by
  have hlt:=hl i (by simp);have o:ops[i]? =some ops[i]:=by grind
  obtain⟨o',h1,h2,h3,h4,h5⟩:=m.get i _ o;have f:∀j∈l,j<ops.size:=fun j hj=>hl j (by grind);have d:Region.wanted o' (yielded ops' a.tmps)=Region.wanted ops[i] (yielded ops a.tmps):=by
   unfold Region.wanted;rw[h5];cases hg:ops[i].guard with
   |none=>rfl|some g=>simp;rw[m.yielded a.tmps i _ g o hg]
  simp only[Um,wpOpsIn,h1]at h;simp only[wpOpsIn,o];rw[d]at h;by_cases p:Region.wanted ops[i] (yielded ops a.tmps)=true;rw[TJ p]at h⊢;exact Oper.wpIn_mono (fun a' w' hh=>P9 m l f hh) (He h2 h3 h4 h);rw[TH p]at h⊢;refine⟨?_,?_⟩;have:=h.1;unfold Oper.about at this⊢;grind;have:=h.2;rw[h3]at this;exact P9 m l f this
theorem gH (ops:Am)(x y:Nat)(g:Ground):Ld ops (j6 ops x y g) id:=by refine⟨fun i o d=>?_,fun tmps i o g' _ _=>?_⟩;show∃o',(j6 ops x y g)[i]? =some o'/\_;rw[U2];by_cases hi:y=i<;>simp_all;show yielded (j6 ops x y g) tmps g'.1=yielded ops tmps g'.1;unfold yielded;rw[U2];grind
def X7 (x n j:Nat):Nat:=if j<x then j else if j=x then n-1 else if j<n then j-1 else j
def piL (x n k:Nat):Nat:=if k<x then k else if k+1=n then x else k+1
variable {j:Nat}
def nU (hj:j<n):X7 x n j<n:=by unfold X7;split<;>(try split)<;>(try split)<;>omega
variable {k:Nat}
def Gx (hx:x<n)(hk:k<n):piL x n k<n:=by unfold piL;split<;>(try split)<;>omega
theorem dJ (hj:j<n):piL x n (X7 x n j)=j:=by unfold piL X7;grind
theorem Ea (hk:k<n):X7 x n (piL x n k)=k:=by unfold piL X7;grind
theorem PD (hx:x<n)(hj:n<=j):X7 x n j=j:=by unfold X7;grind
def uW (x n:Nat)(o:Oper):Oper:= {o with after:=o.after.map (fun e=> {e with on:=X7 x n e.on}),guard:=o.guard.map (fun g=>(X7 x n g.1,g.2))}
def moveLast (ops:Am)(x:Nat):Am:=
 match ops[x]? with
 |some o0=>((List.range ops.size).map fun k=>uW x ops.size ((ops[piL x ops.size k]?).getD o0)).toArray|none=>ops
theorem qY (hx:x<ops.size):moveLast ops x=((List.range ops.size).map fun k=>uW x ops.size ((ops[piL x ops.size k]?).getD ops[x])).toArray:=by unfold moveLast;grind
def cF (hx:x<ops.size):(moveLast ops x).size=ops.size:=by rw[qY hx];simp
theorem Z4 (hx:x<ops.size)(hk:k<ops.size):(moveLast ops x)[k]? =(ops[piL x ops.size k]?).map (uW x ops.size):=by rw[qY hx];have:=Gx hx hk;grind
theorem sS (hx:x<ops.size):Ld ops (moveLast ops x) (X7 x ops.size):=by refine⟨fun i o d=>?_,fun tmps i o g _ _=>?_⟩;have hi:=(TB.1 d).1;rw[Z4 hx (nU hi),dJ hi,d];exact⟨_,rfl,rfl,rfl,rfl,rfl⟩;unfold yielded;by_cases hj:g.1<ops.size;rw[Z4 hx (nU hj),dJ hj];cases ops[g.1]? <;>rfl;rw[PD hx (by omega)];have e1:(moveLast ops x)[g.1]? =none:=Array.getElem?_eq_none (by rw[cF hx];omega);grind
theorem V1.moveLast {ops:Am}{l:Ah}(h:V1 ops l){x:Nat}(hx:x<ops.size):V1 (moveLast ops x) (l.map (X7 x ops.size)):=by have hlt:∀i∈l,i<ops.size:=fun i hi=>(h.mem i).1 hi;refine⟨?_,fun k=>?_,fun k1 k k2 he=>?_⟩;unfold List.Nodup;rw[List.pairwise_map];refine List.Pairwise.imp_of_mem (fun{a b} p hb d e=>d ?_) h.nodup;rw[<-dJ (hlt a p),<-dJ (hlt b hb),e];rw[cF hx,UO];constructor;rintro ⟨j,hj,rfl⟩;exact nU (hlt j hj);intro hk;exact⟨piL x ops.size k,(h.mem _).2 (Gx hx hk),Ea hk⟩;obtain⟨r,v,e1,e2,e3⟩:=List.map_eq_append_iff.1 he;obtain⟨i,t,e4,e5,u⟩:=List.map_eq_cons_iff.1 e3;obtain⟨o,m,q⟩:=h.behind r i t (by grind);have hi:=(TB.1 m).1;subst e5;rw[Z4 hx (nU hi),dJ hi,m];refine⟨_,rfl,fun e f hb=>?_⟩;obtain⟨e0,h0,rfl⟩:=Array.mem_map.1 f;have:=q e0 h0 hb;grind
def Br :List (Av×Av)->List (Av×Av)->Bool
 | [],[]=>true|x::xs,y::ys=>veq 100 x.1 y.1&&veq 100 x.2 y.2&&Br xs ys|_,_=>false
def yZ :∀ {xs ys:List (Av×Av)},Br xs ys=true->xs=ys
 | [],[],_=>rfl|x::xs,y::ys,h=>by simp only[Br,Tl]at h;rw[yZ h.2,Prod.ext (qD 100 _ _ h.1.1) (qD 100 _ _ h.1.2)]| [],_::_,h=>by cases h
 |_::_,[],h=>by cases h
def kG (b c:Blk):Bool:=
 match b,c with
 | .cells c n e z,.cells c' n' e' z'=>Nat.beq n n'&&Nat.beq e e'&&Nat.beq z z'&&(match j9 c 0 n,j9 c' 0 n with|some v,some v'=>oT (veq 100) v v'|_,_=>false)| .map es r,.map es' r'=>(r==r')&&Br es es'| .dfr,.dfr=>true|_,_=>false
variable {b c:Blk}
theorem LK {σ:Sg}{p:Pl}{o:Obj}(h:kG b c=true)(hc:BR σ p c o):BR σ p b o:=by unfold kG at h;split at h;rename_i f n e z m n' e' u;simp only[Tl]at h;obtain⟨⟨⟨h1,h2⟩,h3⟩,h4⟩:=h;have h1:=Tp h1;have h2:=Tp h2;have h3:=Tp h3;subst h1 h2 h3;split at h4;rename_i v v' hv d;have:=dZ (qD 100) h4;obtain⟨C,k1,k2,k3,k4,t⟩:=hc;refine⟨C,k1,k2,k3,k4,fun j hj=>?_⟩;have q:=(l9 hv).2 j hj;have r:=(l9 d).2 j hj;grind;grind;simp at h;obtain⟨rfl,h⟩:=h;rwa[yZ h];grind;cases h
def S6 (h:kG b c=true):gX b=false/\gX c=false:=by unfold kG at h;split at h<;>first|exact⟨rfl,rfl⟩|cases h
def CN (h:kG b c=true):cC b=false/\cC c=false:=by unfold kG at h;split at h<;>first|exact⟨rfl,rfl⟩|cases h
def FY (m1 m2:T Blk):Nat->Nat->T Blk->T Blk
 |_,0,acc=>acc|i,n+1,acc=>match m1.get i,m2.get i with
  |some b,some c=>bif kG b c then(acc.set i (some b)).force fun acc'=>FY m1 m2 (i+1) n acc' else FY m1 m2 (i+1) n acc
  |_,_=>FY m1 m2 (i+1) n acc
theorem Dx {d f:T Blk}:∀(n i:Nat) (acc:T Blk) (j:Nat) (b:Blk),(FY d f i n acc).get j=some b->acc.get j=some b\/(d.get j=some b/\ ∃c,f.get j=some c/\kG b c=true):=by
 intro n;induction n with
 |zero=>intro i acc j b h;exact .inl h
 |succ n p=>
  intro i acc j b h;simp only[FY]at h;split at h
  ·rename_i m o h1 h2;cases hb:kG m o with
   |false=>grind|true=>rw[hb,TE,VV]at h;rcases p _ _ _ _ h with h3|h3;rw[VX]at h3;grind;grind
  grind
def Dw (t1 t2:Ao):Nat->Nat->Bb (Af)
 |_,0=>some []
 | k, n + 1 => bif veq 100 ((t1.get k).getD undef) ((t2.get k).getD undef) then
   match Dw t1 t2 (k+1) n with
   |some vs=>some ((t1.get k).getD undef::vs)|none=>none
  else none
theorem JJ {t1 t2:Ao}:∀ {n k:Nat} {vs:Af},Dw t1 t2 k n=some vs->vs.length=n/\ ∀j,j<n->vs[j]? =some ((t1.get (k+j)).getD undef)/\(t1.get (k+j)).getD undef=(t2.get (k+j)).getD undef:=by
 intro n;induction n with
 |zero=>intro k vs h;simp only[Dw,Tk]at h;subst h;exact(by grind)
 |succ n d=>
  intro k vs h;simp only[Dw]at h;cases hb:veq 100 ((t1.get k).getD undef) ((t2.get k).getD undef)with
  |false=>grind|true=>
   rw[hb,TE]at h;split at h
   ·rename_i f hv;cases h;obtain⟨h1,h2⟩:=d hv;refine⟨by grind,fun j hj=>?_⟩;cases j with
    |zero=>exact⟨rfl,qD 100 _ _ hb⟩|succ j=>grind
   cases h
def rZ (nt:Nat)(a b:Ao×Hp):Bb (Ao×Hp):=
 bif Nat.beq a.2.nx b.2.nx then match Dw a.1 b.1 0 nt with
  |some vs=>some (fill .e 0 vs,⟨FY a.2.m b.2.m 0 a.2.nx .e,a.2.nx⟩)|none=>none
 else none
section
variable {P :Aw}{B:BS}{w0:Bc}
theorem nJ {nt n:Nat}{a b:Ao×Hp}{tm:Ao}{hp:Hp}(h:rZ nt a b=some (tm,hp)){σ:Sg}{e:Exit}{D:List Deferred}{e':Exit}{c:Act}{w:Bc}:(fW n B w0 σ nt e a.1 a.2 D e' c w->fW n B w0 σ nt e tm hp D e' c w)/\(fW n B w0 σ nt e b.1 b.2 D e' c w->fW n B w0 σ nt e tm hp D e' c w):=by
 unfold rZ at h;cases hn:Nat.beq a.2.nx b.2.nx with
 |false=>grind|true=>
  rw[hn,TE]at h;have hn:=Tp hn;split at h
  ·rename_i vs u;cases h;obtain⟨K,G⟩:=JJ u;have E:∀ {σ':Sg} {t:Ao} {tmps:Al},(∀j,j<nt->vs[j]? =some ((t.get j).getD undef))->TR σ' nt t tmps->TR σ' nt (fill .e 0 vs) tmps:=by
    intro σ' t tmps ht h;refine⟨h.size,fun k=>?_⟩;rw[j8];by_cases hk:k<nt;rw[TJ (by omega),UN,ht k hk];exact h.at_ k
    ·rw[TH (by omega),VW];have:tmps.getD k undef=undef:=by simp[Array.getD,h.size,hk]
     rw[this];exact Wg σ'
   constructor;rintro ⟨h1,h2,σ',h3,h4,h5⟩;refine⟨h1,h2,σ',h3,E (fun j hj=>by have:=(G j hj).1;rw[TT]at this;exact this) h4,h5.less fun i b hg=>?_⟩;rcases Dx _ _ _ _ _ hg with h| ⟨h,_⟩;rw[VW]at h;cases h;exact h
   ·rintro ⟨h1,h2,σ',h3,h4,h5⟩;refine⟨h1,h2,σ',by show Sg.gr n a.2.nx σ σ';rw[hn];exact h3,E (fun j hj=>by have:=G j hj;rw[TT]at this;rw[<-this.2];exact this.1) h4,?_⟩;have sub:∀i x,(FY a.2.m b.2.m 0 a.2.nx .e).get i=some x-> ∃y,b.2.m.get i=some y/\kG x y=true:=by intro i x hg;rcases Dx _ _ _ _ _ hg with h| ⟨_,h⟩;rw[VW]at h;cases h;exact h
    refine⟨h5.os,h5.tape,h5.output,h5.size,h5.old,h5.kept,fun i r hi=>h5.frs i r (by rw[<-hn];exact hi),fun i x r hg hx=>?_,fun i j x y r s p q hi hj z C f hp hq=>?_,fun i x hg d=>?_⟩;obtain⟨y,hy,hb⟩:=sub i x hg;obtain⟨p,o,k1,k2,k3,k4⟩:=h5.liv i y r hy ((Vw (S6 hb).2).2 ((Vw (S6 hb).1).1 hx));exact⟨p,o,k1,k2.like (CN hb).2 (CN hb).1,k3,(BX.of (S6 hb).1).2 (LK hb ((BX.of (S6 hb).2).1 k4))⟩;obtain⟨x',v,h1⟩:=sub i x hi;obtain⟨J,A,h2⟩:=sub j y hj;exact h5.ij i j x' J r s p q v A ((Vw (S6 h1).2).2 ((Vw (S6 h1).1).1 z)) ((Vw (S6 h2).2).2 ((Vw (S6 h2).1).1 C)) f hp hq;obtain⟨y,hy,hb⟩:=sub i x hg;rw[(S6 hb).1]at d;cases d
  cases h
end
def CK :Nat->An->Bool
 |_,[]=>true|i,o::os=>o.after.toList.all (fun e=> !(Region.binds .any e)||Nat.blt e.on i)&&CK (i+1) os
theorem xN :∀ {os:An} {i:Nat},CK i os=true-> ∀(j:Nat) o,os[j]? =some o-> ∀e∈o.after,Region.binds .any e=true->e.on<i+j
 | [],_,_,j,o,h=>by grind|x::os,i,h,j,o,d=>by
  simp only[CK,Tl,TS]at h;cases j with
  |zero=>simp at d;subst d;intro e he hb;have:=h.1 e (by grind);simp_all
  |succ j=>intro e he hb;have:=xN h.2 j o (by grind) e he hb;omega
def JH (all:An):Bb (Nat×Nat):=
 (Jy all (H2 all [])).findSome? fun x=>(Jy all (H2 all [])).findSome? fun y=>bif s2 x y then none else some (y.i,x.i)
def Jt (p:Oper×Nat):Op×Bb Tmp×Nat:=(p.1.op,p.1.dst,p.2)
def fM (e:Ent):Nat×Bb Nw:=(e.i,e.nw)
def lF :List (Oper×Nat)->Nat
 | []=>0|p::l=>(bif Nat.beq (i4 p.1.op) 3 then p.2 else 0)|||lF l
theorem eV {nx0:Nat}{m:Nat->Bool}:∀ {d o:List Ent} {S:Hp},d.map fM=o.map fM->takes nx0 m d S=takes nx0 m o S
 | [],[],_,_=>rfl| [],_::_,_,h=>by grind|_::_,[],_,h=>by grind|e::d,f::o,S,h=>by
  simp only[Um,UD,fM,Tm]at h;unfold takes;rw[h.1.2,h.1.1];cases f.nw with
  |none=>exact eV h.2|some n=>
   cases m f.i with
   |true=>exact eV h.2|false=>exact eV h.2
theorem vS {nx0:Nat}{m:Nat->Bool}:∀ {es:List Ent} {S:Hp},(∀e∈es,e.nw≠none->m e.i=false)->takes nx0 m es S=S
 | [],_,_=>rfl|e::es,S,h=>by unfold takes;have d:=vS (nx0:=nx0) (S:=S) fun f hf=>h f (Ut _ hf);grind
section
variable {P :Aw}{call:i8}{nt nx0:Nat}
variable (P call nt nx0) in
def xg1 (op:Op)(dst:Bb Tmp)(pre i:Nat)(tm:Ao)(S:Hp)(I:Nat)(es:List Ent):Bb (Av×Hp×Nat×Bb Nw):=
 bif B6 nt dst then match i4 op with
  |0=>(xop P call tm S op).map fun r=>(r.1,S,I,none)
  |1=>(xrd P tm S op).map fun v=>(v,S,I,none)
  |2=>(xnw P tm op).map fun n=>(n.val (nx0+i),S,I,some n)
  |_=>(xop P call tm (takes nx0 (lV pre I) es S) op).map fun r=>(r.1,r.2,I|||pre,none)
 else none
variable {I i pre:Nat}{tm:Ao}{S:Hp}{es:List Ent}
theorem iO {all:An}{o:Oper}{rest:List (Oper×Nat)}(hg:o.guard=none):xgo P call nt all nx0 ((o,pre)::rest) i tm S I es=(xg1 P call nt nx0 o.op o.dst pre i tm S I es).bind fun r=>xgo P call nt all nx0 rest (i+1) (y6 tm o.dst r.1) r.2.1 r.2.2.1 (⟨i,o,pre,tm,S,r.2.1,I,true,r.1,r.2.2.2⟩::es):=by
 have d:t7 all tm o=true:=by unfold t7;rw[hg]
 conv=>lhs;unfold xgo
 unfold xg1;grind
variable {dst:Bb Tmp}
def Oz {op:Op}{d:List Ent}(h:es.map fM=d.map fM):xg1 P call nt nx0 op dst pre i tm S I es=xg1 P call nt nx0 op dst pre i tm S I d:=by unfold xg1;rw[eV h]
theorem xg1_I {op:Op}{r:Av×Hp×Nat×Bb Nw}(h:xg1 P call nt nx0 op dst pre i tm S I es=some r):r.2.2.1=I||| (bif Nat.beq (i4 op) 3 then pre else 0)/\(r.2.2.2≠none->i4 op=2):=by
 unfold xg1 at h;cases d:B6 nt dst with
 |false=>grind|true=>
  rw[d,TE]at h;have hk:=nM op;generalize i4 op=k at h hk⊢
  match k with
  |0=>simp at h;obtain⟨_,_,rfl⟩:=h;simp[show Nat.beq 0 3=false from rfl]
  |1=>simp at h;obtain⟨_,_,rfl⟩:=h;simp[show Nat.beq 1 3=false from rfl]
  |2=>simp at h;obtain⟨_,_,rfl⟩:=h;simp[show Nat.beq 2 3=false from rfl]
  |3=>simp only[UP]at h;obtain⟨_,_,rfl⟩:=h;simp
  |k+4=>omega
theorem OC {t u:An}{G J:List (Oper×Nat)}{v z:Out}{T0:Nat}:∀(o A:List (Oper×Nat)) (i:Nat) (tm:Ao) (S:Hp) (I:Nat) (m q:List Ent),o.map Jt=A.map Jt->m.map fM=q.map fM->(∀p∈o,p.1.guard=none)->(∀p∈A,p.1.guard=none)->I|||lF o=T0->(∀e∈m,e.nw≠none->T0.testBit e.i=true)->(∀(k:Nat) p,o[k]? =some p->i4 p.1.op=2->T0.testBit (i+k)=true)->xgo P call nt t nx0 (o++G) i tm S I m=some v->xgo P call nt u nx0 (A++J) i tm S I q=some z-> ∃tm' S' d f,d.map fM=f.map fM/\(∀e∈d,e.nw≠none->T0.testBit e.i=true)/\xgo P call nt t nx0 G (i+o.length) tm' S' T0 d=some v/\xgo P call nt u nx0 J (i+o.length) tm' S' T0 f=some z
 | [],[],i,tm,S,I,m,q,_,he,_,_,C,hc,_,h1,h2=>by
  have C:I=T0:=by rw[<-C];simp[lF]
  grind
 | [],_::_,_,_,_,_,_,_,h,_,_,_,_,_,_,_,_=>by grind|_::_,[],_,_,_,_,_,_,h,_,_,_,_,_,_,_,_=>by grind| (K,p1)::o,(W,p2)::A,i,tm,S,I,m,q,hl,he,N,O,C,hc,hk,h1,h2=>by
  simp only[Um,UD,Jt,Tm]at hl;obtain⟨⟨e1,e2,rfl⟩,hl⟩:=hl;rw[Uw,iO (N _ List.mem_cons_self)]at h1;rw[Uw,iO (O _ List.mem_cons_self),<-e1,<-e2,<-Oz he]at h2;cases hx:xg1 P call nt nx0 K.op K.dst p1 i tm S I m with
  |none=>grind|some r=>
   rw[hx]at h1 h2;obtain⟨R,U⟩:=xg1_I hx;have E:r.2.2.1|||lF o=T0:=by rw[R,<-C,lF,Nat.or_assoc]
   obtain⟨tm',S',d,f,M,a2,a3,V⟩:=OC o A (i+1) _ _ _ _ _ hl (by simp only[Um,he];rfl) (by grind) (by grind) E
    (fun e he' hn=>by rcases TZ.1 he' with rfl|he';exact hk 0 _ rfl (U hn);exact hc e he' hn) (fun k p hp h=>by have:=hk (k+1) p (by grind) h;rwa[show i+1+k=i+(k+1) by omega]) h1 h2
   exact⟨tm',S',d,f,M,a2,by grind,by grind⟩
theorem OB {z A:An}{O R:List (Oper×Nat)}{C E:Out}{U S2:Hp}{M N:Nat}:∀(u J:List (Oper×Nat)) (i j:Nat) (tm:Ao) (o q:List Ent),(u.map fun p=>(p.1.op,p.1.dst))=(J.map fun p=>(p.1.op,p.1.dst))->(∀p∈u,p.1.guard=none)->(∀p∈J,p.1.guard=none)->(∀p∈u,i4 p.1.op=0)->xgo P call nt z nx0 (u++O) i tm U M o=some C->xgo P call nt A nx0 (J++R) j tm S2 N q=some E-> ∃tm' f m,(∀e∈f,e.nw≠none->e∈o)/\(∀e∈m,e.nw≠none->e∈q)/\(∀t,(∀p∈u,p.1.dst≠some t)->tm'.get t=tm.get t)/\xgo P call nt z nx0 O (i+u.length) tm' U M f=some C/\xgo P call nt A nx0 R (j+u.length) tm' S2 N m=some E
 | [],[],i,j,tm,o,q,_,_,_,_,h1,h2=>(by grind)
 | [],_::_,_,_,_,_,_,h,_,_,_,_,_=>by grind|_::_,[],_,_,_,_,_,h,_,_,_,_,_=>by grind| (K,p1)::u,(o2,p2)::J,i,j,tm,o,q,hl,V,W,hk,h1,h2=>by
  simp at hl;obtain⟨⟨e1,e2⟩,hl⟩:=hl;have G:=hk _ List.mem_cons_self;rw[Uw,iO (V _ List.mem_cons_self)]at h1;rw[Uw,iO (W _ List.mem_cons_self),<-e1,<-e2]at h2;obtain⟨r,hr⟩:=wQ G;have st:∀pre i S I es,xg1 P call nt nx0 K.op K.dst pre i tm S I es=bif B6 nt K.dst then r.map fun v=>(v,S,I,none)else none:=by intro pre i S I es;unfold xg1;rw[G,hr];cases r<;>rfl
  rw[st]at h1 h2;cases X:B6 nt K.dst with
  |false=>grind|true=>
   rw[X,TE]at h1 h2;cases r with
   |none=>grind|some v=>
    obtain⟨tm',f,m,Z,a2,a3,a4,a5⟩:=OB u J (i+1) (j+1) _ _ _ hl (by grind) (by grind) (by grind) h1 h2;refine⟨tm',f,m,fun e he hn=>?_,fun e he hn=>?_,fun t ht=>?_,by grind,by grind⟩;grind;grind
    ·rw[a3 t fun p hp=>ht p (by grind)];have h0:=ht _ List.mem_cons_self;unfold y6;cases Y:K.dst with
     |none=>rfl|some d=>rw[VX,TH (fun e=>h0 (by grind))]
theorem Aj {t:Ax}{o:Nat}{x:Av}{hp hp':Hp}(h:E0 P hp t (.pointer (some ⟨i,o,none⟩)) x=some hp'):∃b,(∀k,hp'.m.get k=if k=i then some b else hp.m.get k)/\hp'.nx=hp.nx/\ ∀hq:Hp,hq.m.get i=hp.m.get i-> ∀d,E0 P hq t (.pointer (some ⟨i,o,none⟩)) x=some d->(∀k,d.m.get k=if k=i then some b else hq.m.get k)/\d.nx=hq.nx:=by
 unfold E0 at h;simp only at h;split at h
 ·rename_i c n e z hg;split at h
  ·rename_i q p;cases hb:Nat.beq x.cells.toList.length q.size&&Nat.ble (o+q.size) n&&x.cells.toList.all Value.oneCell' with
   |false=>grind|true=>rw[hb,TE,Tk]at h;refine⟨.cells (fill c o x.cells.toList) n e z,fun k=>?_,by rw[<-h,H3],fun hq f d hx=>?_⟩;rw[<-h,H3];exact VX _ _ _ _;simp only[E0,f,hg,p]at hx;rw[hb,TE,Tk]at hx;refine⟨fun k=>?_,by rw[<-hx,H3]⟩;rw[<-hx,H3];exact VX _ _ _ _
  cases h
 cases h
theorem OA {M N:An}{A1 A2 B1 B2:List (Oper×Nat)}{X1 X2 Y1 Y2:Oper×Nat}{d q:Out}{t t':Ax}{a v a' v':Az}{j o o':Nat}(Y:∀p∈A1++X1::(B1++ [Y1]),p.1.guard=none)(Z:∀p∈A2++(B2++ [Y2,X2]),p.1.guard=none)(hA:A1.map Jt=A2.map Jt)(hB:(B1.map fun p=>(p.1.op,p.1.dst))=(B2.map fun p=>(p.1.op,p.1.dst)))(an:∀p∈B1,i4 p.1.op=0)(hc:∀(k:Nat) p,A1[k]? =some p->i4 p.1.op=2->(lF A1).testBit k=true)(ao:X1.1.op= .store t a v)(ap:X2.1.op= .store t a v)(aq:Y1.1.op= .store t' a' v')(au:Y2.1.op= .store t' a' v')(ab:X1.1.dst=none)(ac:X2.1.dst=none)(ad:Y1.1.dst=none)(ae:Y2.1.dst=none)(ha:∀k,a= .tmp k-> ∀p∈B1,p.1.dst≠some k)(hv:∀k,v= .tmp k-> ∀p∈B1,p.1.dst≠some k)(h1:xgo P call nt M nx0 (A1++X1::(B1++ [Y1])) 0 tm S 0 []=some d)(h2:xgo P call nt N nx0 (A2++(B2++ [Y2,X2])) 0 tm S 0 []=some q)(p1:c9 d.tm a=some (.pointer (some ⟨i,o,none⟩)))(p2:c9 d.tm a'=some (.pointer (some ⟨j,o',none⟩)))(E:i≠j):q.tm=d.tm/\(takes nx0 (iD q.I) q.es q.S).nx=(takes nx0 (iD d.I) d.es d.S).nx/\ ∀k,(takes nx0 (iD q.I) q.es q.S).m.get k=(takes nx0 (iD d.I) d.es d.S).m.get k:=by
 obtain⟨tm1,S1,A,C,a1,a2,a3,a4⟩:=OC A1 A2 0 tm S 0 [] [] hA rfl (fun p hp=>Y p (by grind)) (fun p hp=>Z p (by grind)) (Nat.zero_or _) (fun e he=>by simp at he) (fun k p hp h=>by rw[TT];exact hc k p hp h) h1 h2;have G:∀ {es:List Ent},(∀e∈es,e.nw≠none->e∈A)-> ∀ {m:Nat->Bool} {S:Hp},(∀n,(lF A1).testBit n=true->m n=false)->takes nx0 m es S=S:=by intro es he m S hm;exact vS fun e h hn=>hm _ (a2 e (he e h hn) hn)
 have aa:∀e∈C,e.nw≠none->(lF A1).testBit e.i=true:=by
  intro e he hn;have hm:fM e∈A.map fM:=by rw[a1];exact List.mem_map_of_mem he
  obtain⟨f,hf,W⟩:=UO.1 hm;simp only[fM,Tm]at W;rw[<-W.1];exact a2 f hf (by grind)
 have J:∀ {es:List Ent},(∀e∈es,e.nw≠none->e∈C)-> ∀ {m:Nat->Bool} {S:Hp},(∀n,(lF A1).testBit n=true->m n=false)->takes nx0 m es S=S:=by intro es he m S hm;exact vS fun e h hn=>hm _ (aa e (he e h hn) hn)
 have r:∀ {pre I:Nat},(∀n,(lF A1).testBit n=true->I.testBit n=true)-> ∀n,(lF A1).testBit n=true->lV pre I n=false:=fun h n hn=>by unfold lV;rw[h n hn];simp
 have u:∀ {all:An} {X:Oper×Nat} {R:List (Oper×Nat)} {n:Nat} {tm:Ao} {S:Hp} {I:Nat} {es:List Ent} {t:Ax} {a v:Az} {out:Out},X.1.guard=none->X.1.op= .store t a v->X.1.dst=none->(∀pre,takes nx0 (lV pre I) es S=S)->
   xgo P call nt all nx0 (X::R) n tm S I es=some out-> ∃pv K S',c9 tm a=some pv/\c9 tm v=some K/\E0 P S t pv K=some S'/\ ∃e,e.nw=none/\xgo P call nt all nx0 R (n+1) tm S' (I|||X.2) (e::es)=some out:=by
  intro all X R n tm S I es t a v out hg ho hd ht hx;obtain⟨X,pre⟩:=X;rw[iO hg,show X.dst=none from hd,show X.op=_ from ho]at hx;unfold xg1 at hx;rw[show i4 (.store t a v)=3 from rfl,ht,show B6 nt none=true from rfl,TE]at hx;simp only[c8,j5]at hx;cases hp:c9 tm a with
  |none=>rw[hp]at hx;cases hx
  |some pv=>
   cases hu:c9 tm v with
   |none=>rw[hp,hu]at hx;cases hx
   |some K=>
    rw[hp,hu]at hx;simp only at hx;cases hs:E0 P S t pv K with
    |none=>rw[hs]at hx;cases hx
    |some S'=>rw[hs]at hx;exact⟨pv,K,S',rfl,rfl,hs,_,rfl,hx⟩
 have ai:=Y X1 (by simp);have ak:=Y Y1 (by simp);have aj:=Z X2 (by simp);have al:=Z Y2 (by simp);obtain⟨pv,K,S2,b1,b2,b3,e1,n1,b4⟩:=u ai ao ab (fun pre=>G (fun e h _=>h) (r fun n h=>h)) a3;obtain⟨av,V,ah,c1,c2,c3,c4,c5⟩:=OB B1 B2 _ _ tm1 _ _ hB (fun p hp=>Y p (by grind)) (fun p hp=>Z p (by grind)) an b4 a4;have O:∀e∈V,e.nw≠none->e∈A:=fun e he hn=>by rcases TZ.1 (c1 e he hn)with rfl|h;exact absurd n1 hn;exact h
 obtain⟨pw,yv,S3,d1,d2,d3,e2,n2,d4⟩:=u ak aq ad (fun pre=>G O (r fun n h=>by rw[Nat.testBit_or,h];rfl)) c4;simp only[xgo,Tk]at d4;subst d4;obtain⟨ax,az,S4,f1,f2,f3,e3,n3,f4⟩:=u al au ae (fun pre=>J c2 (r fun n h=>h)) c5;have U:∀e∈e3::ah,e.nw≠none->e∈C:=fun e he hn=>by rcases TZ.1 he with rfl|h;exact absurd n3 hn;exact c2 e h hn
 obtain⟨aw,ay,S5,k1,k2,k3,e4,n4,k4⟩:=u aj ap ac (fun pre=>J U (r fun n h=>by rw[Nat.testBit_or,h];rfl)) f4;simp only[xgo,Tk]at k4;subst k4;have ev:∀ {x:Az},(∀k,x= .tmp k-> ∀p∈B1,p.1.dst≠some k)->c9 av x=c9 tm1 x:=by
  intro x hx;cases x with
  |tmp k=>simp only[c9];rw[c3 k (hx k rfl)]|_=>rfl
 rw[ev ha]at k1 p1;rw[ev hv]at k2;rw[b1]at k1 p1;cases k1;cases p1;rw[b2]at k2;cases k2;rw[d1]at f1 p2;cases f1;cases p2;rw[d2]at f2;cases f2;obtain⟨bx,x1,x2,x3⟩:=Aj b3;obtain⟨by_,y1,y2,y3⟩:=Aj d3;obtain⟨z1,z2⟩:=y3 S1 (by rw[x1,TH (Ne.symm E)]) _ f3;obtain⟨w1,w2⟩:=x3 S4 (by rw[z1,TH E]) _ k3;have z:∀(I:Nat),(∀n,(lF A1).testBit n=true->I.testBit n=true)-> ∀n,(lF A1).testBit n=true->iD I n=false:=fun I h n hn=>by unfold iD;rw[h n hn];rfl
 rw[G (es:=e2::V) (fun e he hn=>by rcases TZ.1 he with rfl|h;exact absurd n2 hn;exact O e h hn) (z _ fun n h=>by simp only[Nat.testBit_or,h,Bool.true_or]),
  J (fun e he hn=>by rcases TZ.1 he with rfl|h;exact absurd n4 hn;exact U e h hn) (z _ fun n h=>by simp only[Nat.testBit_or,h,Bool.true_or])]
 refine⟨rfl,by rw[w2,z2,y2,x2],fun k=>?_⟩;rw[w1,z1,y1,x1];by_cases hi:k=i;rw[TJ hi,TH (fun e=>E (hi.symm.trans e)),TJ hi];rw[TH hi,TH hi]
end
theorem NV {α:Type}{l:List α}(h:x<y)(hl:l.length=y+1):l=l.take x++l[x]::((l.drop (x+1)).take (y-x-1)++ [l[y]]):=by
 have e1:(l.drop (x+1)).take (y-x-1)++ [l[y]]=l.drop (x+1):=by
  have: [l[y]]=(l.drop (x+1)).drop (y-x-1):=by rw[List.drop_drop,show x+1+(y-x-1)=y by omega,List.drop_eq_getElem_cons (by omega),List.drop_eq_nil_of_le (by omega)]
  rw[this,UX]
 simp_all
theorem NW {α:Type}{l:List α}(h:x<y)(hl:l.length=y+1):l=l.take x++((l.drop x).take (y-x-1)++ [l[y-1],l[y]]):=by
 have e1:(l.drop x).take (y-x-1)++ [l[y-1],l[y]]=l.drop x:=by
  have: [l[y-1],l[y]]=(l.drop x).drop (y-x-1):=by
   rw[List.drop_drop,show x+(y-x-1)=y-1 by omega,List.drop_eq_getElem_cons (by omega)];have:l.drop (y-1+1)=[l[y]]:=by rw[show y-1+1=y by omega,List.drop_eq_getElem_cons (by omega),List.drop_eq_nil_of_le (by omega)]
   grind
  rw[this,UX]
 simp_all
def MP :Ah->Ah->Bool
 | [],[]=>true|a::l,b::m=>Nat.beq a b&&MP l m|_,_=>false
def Ih :∀ {l m:Ah},MP l m=true->l=m
 | [],[],_=>rfl| [],_::_,h=>by cases h
 |_::_,[],h=>by cases h
 |a::l,b::m,h=>by simp only[MP,Tl,Ub]at h;rw[h.1,Ih h.2]
def BU :Op->Bb (Az×Az)
 | .store _ a v=>some (a,v)|_=>none
variable {a:Az}
theorem zM {o:Op}{v:Az}(h:BU o=some (a,v)):∃t,o= .store t a v:=by unfold BU at h;grind
def uQ (B:An):Az->Bool
 | .tmp t=>B.all fun o=> !(HK o t)
 |_=>true
theorem yW {B:An}(h:uQ B a=true)(k:Nat)(d:a= .tmp k)(o:Oper)(f:o∈B):o.dst≠some k:=by subst d;have:=TS.1 h o f;unfold HK at this;intro e;simp_all
def LY (u v:Ag):Bool:=match u,v with
 |some (.pointer (some ⟨i,_,none⟩)),some (.pointer (some ⟨j,_,none⟩))=> !(Nat.beq i j)|_,_=>false
def OU {u v:Ag}(h:LY u v=true):∃i o j o',u=some (.pointer (some ⟨i,o,none⟩))/\v=some (.pointer (some ⟨j,o',none⟩))/\i≠j:=by unfold LY at h;split at h;rename_i i o j o';exact⟨i,o,j,o',rfl,rfl,fun e=>by rw[e]at h;simp at h⟩;cases h
def Bq (all1 all2:An)(x y:Nat):Bb (Az×Az):=
 bif Nat.beq all1.length (y+1)&&Nat.blt x y&&(all1.all fun o=>o.guard.isNone)&&Nat.beq (H2 all1 []).length (y+1)&&Nat.beq (H2 all2 []).length (y+1)&&MP ((H2 all1 []).take x) ((H2 all2 []).take x)&&
   (((all1.drop (x+1)).take (y-x-1)).all fun o=>Nat.beq (i4 o.op) 0)&&((all1.take x).zipIdx.all fun p=> !(Nat.beq (i4 p.1.op) 2)|| (lF ((all1.zip (H2 all1 [])).take x)).testBit p.2)then
  match all1[x]?,all1[y]? with
  |some ox,some oy=>match BU ox.op,BU oy.op with
   |some (a,v),some (a',_)=>bif ox.dst.isNone&&oy.dst.isNone&&uQ ((all1.drop (x+1)).take (y-x-1)) a&&uQ ((all1.drop (x+1)).take (y-x-1)) v then some (a,a')else none|_,_=>none
  |_,_=>none
 else none
section
variable {P :Aw}{call:i8}{nt nx0:Nat}
variable {tm:Ao}
theorem zX {all:An}{hp:Hp}{r:Ao×Hp}(h:U4 P call nt all tm hp=some r):∃out,xgo P call nt all hp.nx (all.zip (H2 all [])) 0 tm ⟨hp.m,hp.nx+all.length⟩ 0 []=some out/\r=(out.tm,takes hp.nx (iD out.I) out.es out.S):=by unfold U4 at h;grind
set_option maxHeartbeats 1000000 in
def Kf {ops:Am}{x y:Nat}{g g':Ground}{a a':Az}{hp:Hp}{r1 r2:Ao×Hp}(hp':Bq (j6 ops x y g).toList (moveLast (j6 ops y x g') x).toList x y=some (a,a'))(h1:U4 P call nt (j6 ops x y g).toList tm hp=some r1)(h2:U4 P call nt (moveLast (j6 ops y x g') x).toList tm hp=some r2)(hd:LY (c9 r1.1 a) (c9 r1.1 a')=true):r2.1=r1.1/\r2.2.nx=r1.2.nx/\ ∀k,r2.2.m.get k=r1.2.m.get k:=by
 obtain⟨ai,h1,rfl⟩:=zX h1;obtain⟨aj,h2,rfl⟩:=zX h2;have X:(j6 ops x y g).toList.length=ops.size:=by simp[j6]
 have C:(j6 ops y x g').size=ops.size:=by simp[j6]
 unfold Bq at hp';generalize hb:(Nat.beq (j6 ops x y g).toList.length (y+1)&&Nat.blt x y&&((j6 ops x y g).toList.all fun o=>o.guard.isNone)&&Nat.beq (H2 (j6 ops x y g).toList []).length (y+1)&&Nat.beq (H2 (moveLast (j6 ops y x g') x).toList []).length (y+1)&&MP ((H2 (j6 ops x y g).toList []).take x) ((H2 (moveLast (j6 ops y x g') x).toList []).take x)&&
   ((((j6 ops x y g).toList.drop (x+1)).take (y-x-1)).all fun o=>Nat.beq (i4 o.op) 0)&&(((j6 ops x y g).toList.take x).zipIdx.all fun p=> !(Nat.beq (i4 p.1.op) 2)|| (lF (((j6 ops x y g).toList.zip (H2 (j6 ops x y g).toList [])).take x)).testBit p.2))=b at hp'
 cases b with
 |false=>cases hp'
 |true=>
 rw[TE]at hp';simp only[Tl,Ub]at hb;obtain⟨⟨⟨⟨⟨⟨⟨b1,b2⟩,b3⟩,b4⟩,b5⟩,b6⟩,b7⟩,b8⟩:=hb;have G:x<y:=To b2;have b6:=Ih b6;have hn:ops.size=y+1:=by rw[<-X];exact b1
 have Y:x<(j6 ops y x g').size:=by omega
 have J:(moveLast (j6 ops y x g') x).toList.length=y+1:=by rw[Array.length_toList,cF Y,C,hn]
 have ab:∀k o,(j6 ops x y g).toList[k]? =some o-> ∃Z,(moveLast (j6 ops y x g') x).toList[X7 x (y+1) k]? =some Z/\Z.op=o.op/\Z.dst=o.dst/\(o.guard=none->Z.guard=none):=by
  intro k o E;have hk:k<y+1:=by rw[<-b1];exact(Tn.1 E).1
  have hl:X7 x (y+1) k<(j6 ops y x g').size:=by rw[C,hn];exact nU hk
  rw[Array.getElem?_toList,U2]at E;rw[Array.getElem?_toList,Z4 Y hl,C,hn,dJ hk,U2];cases N:ops[k]? with
  |none=>rw[N]at E;split at E<;>cases E
  |some o0=>
   rw[N]at E;have q:o.op=o0.op/\o.dst=o0.dst/\o.guard=o0.guard:=by split at E<;>(simp only[Ug,Tk]at E;subst E;exact⟨rfl,rfl,rfl⟩)
   split;exact⟨_,rfl,q.1.symm,q.2.1.symm,fun h=>by rw[q.2.2]at h;simp[uW,h]⟩;exact⟨_,rfl,q.1.symm,q.2.1.symm,fun h=>by rw[q.2.2]at h;simp[uW,h]⟩
 generalize (j6 ops x y g).toList=d at*;generalize (moveLast (j6 ops y x g') x).toList=r at*;generalize ak:H2 d []=f at*;generalize al:H2 r []=u at*;have l1:(d.zip f).length=y+1:=by rw[List.length_zip,b1,b4,Nat.min_self]
 have l2:(r.zip u).length=y+1:=by rw[List.length_zip,J,b5,Nat.min_self]
 have z1:∀k (h:k<y+1),(d.zip f)[k]=(d[k],f[k]):=fun k h=>List.getElem_zip;have z2:∀k (h:k<y+1),(r.zip u)[k]=(r[k],u[k]):=fun k h=>List.getElem_zip;have z:∀k (h:k<y+1) (h':X7 x (y+1) k<y+1),r[X7 x (y+1) k].op=d[k].op/\r[X7 x (y+1) k].dst=d[k].dst/\(d[k].guard=none->r[X7 x (y+1) k].guard=none):=by intro k h h';obtain⟨Z,k1,k2⟩:=ab k d[k] (by simp);rw[Tx (by omega),Tk]at k1;rw[k1];exact k2
 have M:∀k (h:k<y+1),d[k].guard=none:=fun k h=>by have:=TS.1 b3 d[k] (Vf _);simpa using this
 have ac:∀k (h:k<y+1),r[k].guard=none:=by intro k h;have e:=Ea (x:=x) h;have hp:=Gx (x:=x) (n:=y+1) (by omega) h;have:=(z (piL x (y+1) k) hp (by rw[e];exact h)).2.2 (M _ hp);simpa only[e]using this
 rw[NV G l1]at h1;rw[NW G l2]at h2;split at hp'
 rotate_left
 cases hp';rename_i ox oy O R;split at hp'
 rotate_left
 cases hp';rename_i a0 v aa v' ah U;cases hc:ox.dst.isNone&&oy.dst.isNone&&uQ ((d.drop (x+1)).take (y-x-1)) a0&&uQ ((d.drop (x+1)).take (y-x-1)) v with
 |false=>rw[hc]at hp';cases hp'
 |true=>
 rw[hc,TE,Tk,Tm]at hp';obtain⟨rfl,rfl⟩:=hp';simp only[Tl,Option.isNone_iff_eq_none]at hc;obtain⟨⟨⟨c1,c2⟩,c3⟩,c4⟩:=hc;obtain⟨t,V⟩:=zM ah;obtain⟨t',W⟩:=zM U;have ex:d[x]=ox:=by rw[Tx (by omega)]at O;exact TN O
 have ey:d[y]=oy:=by rw[Tx (by omega)]at R;exact TN R
 have rx:X7 x (y+1) x=y:=by unfold X7;rw[TH (by omega),TJ rfl];omega
 have ry:X7 x (y+1) y=y-1:=by unfold X7;rw[TH (by omega),TH (by omega),TJ (by omega)]
 have qx:=z x (by omega) (by omega);have qy:=z y (by omega) (by omega);simp only[rx]at qx;simp only[ry]at qy;obtain⟨i,o,j,o',d1,d2,d3⟩:=OU hd;have K:∀p∈((d.zip f).drop (x+1)).take (y-x-1),p.1∈(d.drop (x+1)).take (y-x-1):=by intro p hp;obtain⟨k,hk⟩:=Uq.1 hp;rw[TU]at hk;split at hk;rename_i hlt;rw[Ua,Tx (by omega),z1 _ (by omega),Tk]at hk;subst hk;refine Uq.2 ⟨k,?_⟩;rw[TU,TJ hlt,Ua,Tx (by omega)];cases hk
 refine OA (P:=P) (call:=call) (nt:=nt) (nx0:=hp.nx) (X1:=(d.zip f)[x]) (X2:=(r.zip u)[y]) (Y1:=(d.zip f)[y]) (Y2:=(r.zip u)[y-1]) (t:=t) (t':=t') (a:=a0) (v:=v) (a':=aa) (v':=v') ?_ ?_ ?_ ?_ ?_ ?_ ?_ ?_ ?_ ?_ ?_ ?_ ?_ ?_ ?_ ?_ h1 (by rw[J,<-b1]at h2;exact h2) d1 d2 d3;rw[<-NV G l1];intro p hp;obtain⟨k,hk,rfl⟩:=List.mem_iff_getElem.1 hp;rw[z1 k (by omega)];exact M k (by omega);rw[<-NW G l2];intro p hp;obtain⟨k,hk,rfl⟩:=List.mem_iff_getElem.1 hp;rw[z2 k (by omega)];exact ac k (by omega)
 ·refine List.ext_getElem (by simp[l1,l2]) fun k hk ad=>?_;have A:k<x:=by simp at hk;omega
  simp only[List.getElem_map,List.getElem_take];rw[z1 k (by omega),z2 k (by omega)];have rk:X7 x (y+1) k=k:=by unfold X7;rw[TJ A]
  have q:=z k (by omega) (by omega);simp only[rk]at q;have ae:f[k]=u[k]:=by
   have:(f.take x)[k]? =(u.take x)[k]? :=by rw[b6]
   rw[TU,TU,TJ A,TJ A,Tx (by omega),Tx (by omega)]at this;exact TN this
  unfold Jt;rw[q.1,q.2.1,ae]
 ·refine List.ext_getElem (by simp[l1,l2];omega) fun k hk ad=>?_;have A:k<y-x-1:=by simp at hk;omega
  simp only[List.getElem_map,List.getElem_take,List.getElem_drop];rw[z1 _ (by omega),z2 _ (by omega)];have rk:X7 x (y+1) (x+1+k)=x+k:=by unfold X7;rw[TH (by omega),TH (by omega),TJ (by omega)];omega
  have q:=z (x+1+k) (by omega) (by omega);simp only[rk]at q;rw[q.1,q.2.1]
 intro p hp;exact Tp (TS.1 b7 _ (K p hp));intro k p hp hk;rw[TU]at hp;split at hp;rename_i A;rw[Tx (by omega),z1 k (by omega),Tk]at hp;rw[<-hp]at hk;have:=TS.1 b8 (d[k],k) (by refine Uq.2 ⟨k,?_⟩;rw[List.getElem?_zipIdx,TU,TJ A,Tx (by omega)];simp);simp only[UK,Uh]at this;simp only at hk;rcases this with h|h;rw[hk]at h;cases h;exact h;cases hp;exact(congrArg (fun p=>p.1.op) (z1 x (by omega))).trans ((congrArg Oper.op ex).trans V);exact(congrArg (fun p=>p.1.op) (z2 y (by omega))).trans (qx.1.trans ((congrArg Oper.op ex).trans V));exact(congrArg (fun p=>p.1.op) (z1 y (by omega))).trans ((congrArg Oper.op ey).trans W);exact(congrArg (fun p=>p.1.op) (z2 (y-1) (by omega))).trans (qy.1.trans ((congrArg Oper.op ey).trans W));exact(congrArg (fun p=>p.1.dst) (z1 x (by omega))).trans ((congrArg Oper.dst ex).trans c1);exact(congrArg (fun p=>p.1.dst) (z2 y (by omega))).trans (qx.2.1.trans ((congrArg Oper.dst ex).trans c1));exact(congrArg (fun p=>p.1.dst) (z1 y (by omega))).trans ((congrArg Oper.dst ey).trans c2);exact(congrArg (fun p=>p.1.dst) (z2 (y-1) (by omega))).trans (qy.2.1.trans ((congrArg Oper.dst ey).trans c2));exact fun k hk p hp=>yW c3 k hk _ (K p hp);exact fun k hk p hp=>yW c4 k hk _ (K p hp)
end
def AG (nt:Nat)(s:Bb (Az×Az))(r1 r2:Ao×Hp):Bb (Ao×Hp):=match s with
 |some (a,a')=>bif LY (c9 r1.1 a) (c9 r1.1 a')then some r1 else rZ nt r1 r2|none=>rZ nt r1 r2
theorem mW {B:BS}{w0:Bc}{call:i8}{nt:Nat}{g':Ground}{tm0 tm:Ao}{hp0 hp:Hp}{r1 d:Ao×Hp}(h1:U4 P call nt (j6 ops x y g).toList tm0 hp0=some r1)(h2:U4 P call nt (moveLast (j6 ops y x g') x).toList tm0 hp0=some d)(h:AG nt (Bq (j6 ops x y g).toList (moveLast (j6 ops y x g') x).toList x y) r1 d=some (tm,hp)){σ:Sg}{e:Exit}{D:List Deferred}{e':Exit}{c:Act}:(fW n B w0 σ nt e r1.1 r1.2 D e' c w->fW n B w0 σ nt e tm hp D e' c w)/\(fW n B w0 σ nt e d.1 d.2 D e' c w->fW n B w0 σ nt e tm hp D e' c w):=by
 unfold AG at h;split at h
 ·rename_i a a' hs;cases f:LY (c9 r1.1 a) (c9 r1.1 a')with
  |false=>rw[f]at h;exact nJ h|true=>rw[f,TE,Tk]at h;subst h;obtain⟨m,p,q⟩:=Kf hs h1 h2 f;replace m:d.1=tm:=m;refine⟨id,fun⟨k1,k2,σ',k3,k4,o⟩=>⟨k1,k2,σ',by grind,by grind,o.sub (Nat.le_of_eq p) fun i b hg=>by grind⟩⟩
 exact nJ h
def QY (P:Aw)(call:i8)(nt:Nat)(ops:Am)(tm:Ao)(hp:Hp)(x y:Nat):Bb (Ao×Hp):=
 bif CK 0 ops.toList&&Nat.blt x ops.size&&Nat.blt y ops.size&& !(Nat.beq x y)then
  match U4 P call nt (j6 ops x y .data).toList tm hp with
  |some r1=>match U4 P call nt (moveLast (j6 ops y x .data) x).toList tm hp with
   |some r2=>AG nt (Bq (j6 ops x y .data).toList (moveLast (j6 ops y x .data) x).toList x y) r1 r2|none=>none
  |none=>none
 else none
def u7 (P:Aw):bX:=fun call nt all tm hp=>
 match U4 P call nt all tm hp with
 |some r=>some r|none=>match JH all with
  |some (x,y)=>QY P call nt all.toArray tm hp x y|none=>none
theorem KN (hm:P.follows .mixedOrders=true):kU P (u7 P):=by
 intro call d nt ops id tm hp tm' hp' h B w0 σ a w ht G r;unfold u7 at h;split at h;rename_i r1 hr;cases h;exact Oy hm call d nt ops id tm hp tm' hp' hr B w0 σ a w ht G r
 ·split at h
  ·rename_i x y _;unfold QY at h;cases hb:CK 0 ops.toList.toArray.toList&&Nat.blt x ops.toList.toArray.size&&Nat.blt y ops.toList.toArray.size&& !(Nat.beq x y)with
   |false=>grind|true=>
    rw[hb,TE]at h;have e0:ops.toList.toArray=ops:=by simp
    simp at hb;obtain⟨⟨⟨K,R⟩,T⟩,J⟩:=hb;have hx:x<ops.size:=by simp_all
    have hy:y<ops.size:=by simp_all
    have C:x≠y:=fun e=>by rw[e]at J;simp at J
    have p:∀(i:Nat) o,ops[i]? =some o-> ∀e∈o.after,Region.binds .any e=true->e.on<i:=by intro i o U e he z;have:=xN K i o (by grind) e he z;omega
    split at h
    ·rename_i r1 h1;split at h
     ·rename_i V h2;refine wpIn_region_draw fun t=>?_;rw[hm];have hl:=rT p t;rcases hl.first hx hy C with⟨N,O,e,f⟩| ⟨N,O,e,f⟩
      ·
       rw[e]at hl⊢;have m:=hl.edge (g:= .data) f;have v:=qF d h1 ht G r;have q:=oJ m _ [] _ _ _ _ rfl (by simp) (fun j hj=>by simp[hj]) v;have u:=cP (fun e' a' w' hq=>(mW h1 h2 h).1 hq) _ q;refine P9 (gH ops x y .data) _ (fun i hi=>(hl.mem i).1 hi) ?_;simp_all
      ·
       rw[e]at hl⊢;have m:=hl.edge (g:= .data) f;have E:(j6 ops y x .data).size=ops.size:=by simp[j6]
       have A:=m.moveLast (by rw[E];exact hx);have v:=qF d h2 ht G r;have q:=oJ A _ [] _ _ _ _ rfl (by simp) (fun j hj=>by simp[hj]) v;have u:=cP (fun e' a' w' hq=>(mW h1 h2 h).2 hq) _ q;have M:=P9 (sS (by omega)) _ (fun i hi=>(m.mem i).1 hi) u;refine P9 (gH ops y x .data) _ (fun i hi=>(hl.mem i).1 hi) ?_;simp_all
     cases h
    cases h
  cases h
def D8 (P:Aw)(ov:Aa)(n:Nat):i8:=dA P (u7 P) ov n
def HN (hm:P.follows .mixedOrders=true){ov:Aa}(d:∀g t,ov g=some t->kV P g t)(n:Nat):Q4 P (D8 P ov n):=CP (KN hm) d n
end Go.Xe
namespace Go.Xe
open Go.RowKit
def yes (r:Bb (Av×Hp)):Bool:=
 match r with
 |some (.bool b,_)=>b|_=>false
def Hp.empty :Hp:=⟨.e,0⟩
def Sg.none :Sg:=⟨fun _ _=>Option.none⟩
def HR.start (w:Bc):HR (BS.below w) w Sg.none Hp.empty w:=
 ⟨rfl,rfl,rfl,TK _,fun _ (h:_<_)=>h,fun _ _=>rfl,fun _ _ _=>rfl,fun i b r h=>by simp[Hp.empty,VW]at h,fun i j b b' r s p q h=>by simp[Hp.empty,VW]at h,fun i b h=>by simp[Hp.empty,VW]at h⟩
def HR.toBelow {σ:Sg}{hp:Hp}{w w':Bc}(h:HR (BS.below w) w σ hp w'):Below w.heap.size w w':=
 ⟨h.os,h.tape,h.output,h.size,h.kept⟩
def noOv :Aa:=fun _=>none
variable {P:Aw}
def Ps :∀g t,noOv g=some t->kV P g t:=fun _ _ h=>by cases h
def AS (P:Aw)(g:Ay):Func:=(P.funcs[g]?).getD {name:= "",origin:= "",params:= #[],resultTypes:= #[],nfree:=0,ntmps:=0,results:= #[],body:=none,norace:=false,tmpNames:= #[]}
variable {g:Ay}
theorem kV.of {t:Ax}(r:Ax)(h0:(P.funcs[g]?).isSome=true)(h1:((AS P g).name== "runtime.NumGoroutine")=false)(h2:(AS P g).body.isNone=true)(h3:Extern.findNext (AS P g)=none)(h4:Extern.find (AS P g)=some (Extern.SlicesOverlaps.overlaps #[t,t] #[r]))(d:t≠kP:=by decide):kV P g t:=by refine .inr ⟨d,AS P g,r,?_,h1,h2,h3,h4⟩;unfold AS;grind
def Bp (g0:Ay)(t0:Ax)(rest:Aa):Aa:=fun g=>bif Nat.beq g g0 then some t0 else rest g
theorem Pv {g0:Ay}{t0:Ax}{rest:Aa}(h:kV P g0 t0)(hr:∀g t,rest g=some t->kV P g t):∀g t,Bp g0 t0 rest g=some t->kV P g t:=by
 intro g t hg;unfold Bp at hg;cases hb:Nat.beq g g0 with
 |true=>simp_all|false=>grind
def Pw (h:Fk P g):kV P g kP:= .inl ⟨rfl,h⟩
end Go.Xe
namespace Go.Xe
open Go.RowKit
section
open Go.ChangeShapes
variable {H :Type}{enc:Ax×Av->H}{P:Aw}{w:Bc}{base:Nat}{spare:Nat->Bool}{held:Bool}
