/- The executor, parts S, 13, 14, 15, D, 16, 17.
  Conditions: none. -/
import Derived.Test.YtgmiikiinbaapaaGreatXm2
import Derived.OrdersIn
set_option linter.all false
noncomputable section
namespace Go.Xe
open Go.RowKit
def clEq (v1 v2:Af):Bool:= @decide (v1=v2) (Classical.propDecidable _)
def Mm {b c:Af}(h:clEq b c=true):b=c:= @QN _ (Classical.propDecidable _) h
def HT (v:Af):clEq v v=true:= @decide_eq_true _ (Classical.propDecidable _) rfl
def noR :Av->Bool
 | .bool _| .int _ _| .complex _ _ _| .string _| .slice _ _ _| .pointer none| .pointer (some ⟨_,_,none⟩)| .map _=>true
 |_=>false
def VR.noR {σ σ':Sg}(hs:∀i p,σ i=some p->σ' i=some p){v u:Av}(h:VR σ v u)(hn:noR v=true):VR σ' v u:=by
 cases h<;>first
  |exact .bool _|exact .int _ _|exact .string _|exact .nilp|exact .nils _ _|exact .vague _ _|exact .nilm
  | (rename_i f lo hi n h1 h2;exact .ival f lo hi n h1 h2)
  | (rename_i i o p h;exact .ptr i o p (hs _ _ h))
  | (rename_i i o p l c c' h hc hl;exact .slice i o p l c c' (hs _ _ h) hc hl)
  | (rename_i i p h;exact .map i p (hs _ _ h))
  |cases hn
def Cd (R:Af->Hp->Bb (Av×Hp))(args:Af)(hp:Hp):Bb (Av×Hp):=
 match args with
 | [.slice (some ⟨i,o0,none⟩) l c,x,.slice (some ⟨j,o,none⟩) m cm]=>
  bif Nat.ble unk c && Nat.beq (E8 c) 0 && !(Nat.beq i j) && Nat.ble (l + m) 67108864 then
   match hp.m.get i,hp.m.get j with
   |some bi,some bj=>
    match R [.slice (some ⟨i,o0,none⟩) l (d8 (l+m) 0),x,.slice (some ⟨j,o,none⟩) m cm] ⟨(T.set .e i (some bi)).set j (some bj),hp.nx⟩,
      R [.slice (some ⟨i,o0,none⟩) l (d8 l (l+m)),x,.slice (some ⟨j,o,none⟩) m cm] ⟨(T.set .e i (some bi)).set j (some bj),hp.nx⟩with
    |some (.slice (some ⟨a,oa,none⟩) la ca,ha),some (.slice (some ⟨b,ob,none⟩) lb cb,hb)=>
     bif Nat.beq la lb&&Nat.ble unk ca&&Nat.ble unk cb then
      match ha.m.get a,hb.m.get b with
      |some (.cells c1 k1 e1 z1),some (.cells c2 k2 e2 z2)=>
       bif Nat.ble (oa+la*z1) k1&&Nat.ble (ob+la*z1) k2&&Nat.beq e1 e2&&Nat.beq z1 z2 then
        match v5 c1 oa (la*z1),v5 c2 ob (la*z1)with
        | some v1, some v2 => bif (qD (veq 100) v1 v2 || clEq v1 v2) && v1.all noR then
          some (.slice (some ⟨Nat.max ha.nx hb.nx,0,none⟩) la (d8 la 0),
           ⟨((hp.m.set i none).set j none).set (Nat.max ha.nx hb.nx) (some (.cells (fill .e 0 v1) (la*z1) e1 z1)),Nat.max ha.nx hb.nx+1⟩)
         else none
        |_,_=>none
       else none
      |_,_=>none
     else none
    |_,_=>none
   |_,_=>none
  else none
 |_=>none
def K6 (P:Aw)(runD:Ay->Af->Hp->Bb (Av×Hp)):List Df->Hp->Bb Hp
 | [],hp=>some hp| .mark r::ds,hp=>match hp.m.get r with
  |some .dfr=>K6 P runD ds {hp with m:=hp.m.set r none}|_=>none
 | .call g args cap::ds,hp=>match P.funcs[g]? with
  | some fn => bif AF fn then
    match runD g (args++cap) hp with
    |some (_,hp')=>K6 P runD ds hp'|none=>none
   else none
  |none=>none
def vO (P:Aw)(fn:Func)(runD:Ay->Af->Hp->Bb (Av×Hp))(tm:Ao)(hp:Hp)(ds:List Df):Bb (Av×Hp):=
 match K6 P runD ds hp with
 |some hp'=>match Q5 P tm hp' fn.results.toList with
  |some vs=>some (iM vs,hp')|none=>none
 |none=>none
def X3 (P:Aw)(dr:Z6)(call:j8)(runD:Ay->Af->Hp->Bb (Av×Hp))(n:Nat)(f:Ay)(args:Af)(hp:Hp):Bb (Av×Hp):=
 match P.funcs[f]? with
 |some fn=>match fn.body with
  |some c=>match p8 P dr call (args.length+(fn.ntmps-args.length)) none n c (fill .e 0 args) hp []with
   |some (.mk .normal tm' hp' ds)=>vO P fn runD tm' hp' ds|some (.mk .ret tm' hp' ds)=>vO P fn runD tm' hp' ds|_=>none
  |none=>none
 |none=>none
def X4 (P:Aw)(dr:Z6)(call:j8)(n:Nat)(f:Ay)(args:Af)(hp:Hp):Bb (Av×Hp):=
 match P.funcs[f]? with
 |some fn=>match fn.body with
  |some c=>match p8 P dr call (args.length+(fn.ntmps-args.length)) none n c (fill .e 0 args) hp []with
   |some (.mk .normal tm' hp' [])=>vO P fn (fun _ _ _=>none) tm' hp' []|some (.mk .ret tm' hp' [])=>vO P fn (fun _ _ _=>none) tm' hp' []|_=>none
  |none=>none
 |none=>none
def Gx (P:Aw)(dr:Z6)(call:j8)(m:Nat)(i:Nat)(args:Af)(hp:Hp):Bb (Av×Hp):=
 have _:=(P,dr,call,m,i,args,hp)
 none
def iN (R:Af->Hp->Bb (Av×Hp))(args:Af)(hp:Hp):Bb (Av×Hp):=
 match R args hp with
 |some r=>some r|none=>Cd R args hp
def wkA (hp:Hp):Af->Af
 | .slice (some ⟨i, o, none⟩) l c :: xs => bif Nat.ble c 67108864 then
   match hp.m.get i with
   |some (.cells _ k _ z)=>bif Nat.ble (o+c*z) k then .slice (some ⟨i,o,none⟩) l (d8 c 0)::xs else .slice (some ⟨i,o,none⟩) l c::xs|_=>.slice (some ⟨i,o,none⟩) l c::xs
  else .slice (some ⟨i,o,none⟩) l c::xs
 |xs=>xs
def wkFn (fn:Func):Bool:=(Nat.beq fn.ntmps 33||Nat.beq fn.ntmps 95)&&match fn.params.toList,fn.resultTypes.toList with
 | [a,_,_],[r]=>Nat.beq a r|_,_=>false
def wkF (P:Aw)(f:Ay):Bool:=match P.funcs[f]? with
 |some fn=>wkFn fn|none=>false
def aQ (P:Aw)(dr:Z6)(ov:Aa):Nat->j8
 |0=>⟨fun _ _ _=>none,ov,fun _ _ _=>none⟩
 |n+1=>⟨fun f args hp=>bif isT (ov f)&&args.isEmpty then some (.bool true,hp)else iN (X3 P dr (aQ P dr ov n) (X4 P dr (aQ P dr ov n) n) n f) (bif wkF P f then wkA hp args else args) hp,ov,Gx P dr (aQ P dr ov n) n⟩
section
variable {P :Aw}{B:BS}{w0:Bc}
def Jo (P:Aw)(f:Ay)(R:Af->Hp->Bb (Av×Hp)):Prop:=
 ∀args hp v hp',R args hp=some (v,hp')-> ∀B w0 σ w args',VRL σ args args'->HR B w0 σ hp w->
  Calls P f args'.toArray w (fun e w'=>∃σ' u,e= .returned u/\Sg.gr hp.nx hp'.nx σ σ'/\VR σ' v u/\HR B w0 σ' hp' w')
def Ew (P:Aw)(f:Ay)(R:Af->Hp->Bb (Av×Hp)):Prop:=
 ∀args hp v hp',R args hp=some (v,hp')-> ∀B w0 σ w args',VRL σ args args'->HR B w0 σ hp w-> ∀u,
  CallsDIn Fence.wide 0 P f args'.toArray u w (fun e u' w'=>u'=u/\ ∃σ' x,e= .returned x/\Sg.gr hp.nx hp'.nx σ σ'/\VR σ' v x/\HR B w0 σ' hp' w')
variable {σ:Sg}{hp:Hp}{w:Bc}
theorem HR.touch (h:HR B w0 σ hp w){b:Nat}{o:Obj}(d:¬B b)(hl:∀i x r q,hp.m.get i=some x->Ix x r->σ.f i r=some q->q.blk≠b):HR B w0 σ hp {w with heap:=w.heap.setIfInBounds b o}:=by refine⟨h.os,h.tape,h.output,by simpa using h.size,h.old,fun k hk=>?_,h.frs,fun i x r hg hx=>?_,h.ij,h.rz⟩;have c:b≠k:=fun e=>d (by rw[e];exact hk);simp[Array.getElem?_setIfInBounds_ne c,h.kept k hk];obtain⟨p,o',h1,h2,h3,h4⟩:=h.liv i x r hg hx;grind
variable {tmps:Al}
def pK {fn:Func}{vs us:Af}(h1:VRL σ vs us)(h2:(fn.results.toList.mapM (Dj tmps):Sem (Af)).run P w= .ok us w):(results fn tmps).run P w= .ok (iM us) w/\VR σ (iM vs) (iM us):=by
 constructor
 ·have he:results fn tmps=(do let vs<-fn.results.mapM (Dj tmps);pure (if h:vs.size=1 then vs[0]else .tuple vs):Sem Av):=rfl;rw[he,Array.mapM_eq_mapM_toList,PN,Sem.run_map,h2];cases us with
  |nil=>rfl|cons x us=>cases us<;>rfl
 ·cases vs with
  |nil=>rw[h1.unnil];exact VRL.to_tuple (Sp σ)|cons x vs=>
   obtain⟨y,d,rfl,c,b⟩:=h1.uncons;cases vs with
   |nil=>rw[b.unnil];exact c|cons m vs=>obtain⟨n,f,rfl,_,_⟩:=b.uncons;exact h1.to_tuple
variable {runD:Ay->Af->Hp->Bb (Av×Hp)}
theorem BW (W:∀g,Ew P g (runD g)){fn:Func}{R:Ending->Bc->Prop}:∀(ds:List Df) (D:List Deferred) (hp hp':Hp) (σ:Sg) (w:Bc),K6 P runD ds hp=some hp'->DsR σ ds D->HR B w0 σ hp w->(∀σ' w',Sg.gr hp.nx hp'.nx σ σ'->HR B w0 σ' hp' w'->LeavesIn Fence.wide 0 P fn tmps R [] .returning w')->LeavesInM Fence.wide 0 P fn tmps R D .returning w:=by
 intro ds;induction ds with
 |nil=>
  intro D hp hp' σ w h f n k;simp only[K6,Pj]at h;subst h;cases D with
  |nil=>exact k σ w (RU _ σ) n|cons d D=>exact f.elim
 |cons x ds O=>
  intro D hp hp' σ w h f n k;cases D with
  |nil=>cases x<;>exact f.elim
  |cons d D=>
   obtain⟨hx,f⟩:=f;cases x with
   |mark r=>simp only[K6]at h;split at h;rename_i hg;obtain⟨p,hp1,c⟩:=hx;obtain⟨p',o,Q,X,Y,J⟩:=n.live r _ hg;have:p'=p:=PK (Q.symm.trans hp1);subst this;have J:o= .deferred (some []):=J;subst J;have G:=(HR.drop n r).touch (o:= .deferred none) X (fun i x Z q hi hx hq e=>by have hi:(hp.m.set r none).get i=some x:=hi;rw[Sa]at hi;by_cases t:i=r;grind;rw[PE t]at hi;exact n.ij i r x _ Z 0 q p' hi hg hx rfl (.inl t) hq Q e);exact⟨by simp,.inl ⟨p'.blk,_,c,run_takeDeferred Y,O D _ hp' σ _ h f G k⟩⟩;cases h
   |call g args cap=>
    simp only[K6]at h;obtain⟨b,c,z,A⟩:=hx;split at h
    ·rename_i U u;cases N:AF U with
     |false=>grind|true=>
      rw[N,PB]at h;split at h
      ·rename_i v hp1 hr;refine⟨by simp,.inr ⟨fun h=>(by cases h),.func g,b,g,(d.args.toList++b.toList).toArray,c,?_,fun _ _=>trivial,?_⟩⟩
       ·rw[c];have:(d.args.toList++b.toList).toArray=d.args++b:=by apply Array.ext';simp
        rw[this];exact lV u N w
       refine CallsDIn.mono (W g (args++cap) hp v hp1 hr B w0 σ w _ (z.append A) n .returning) fun e u' w' he=>?_;obtain⟨rfl,M,x,rfl,gr,_,E⟩:=he;exact O D hp1 hp' M w' h (f.mono gr.le) E fun σ' K V C=>k σ' K (RV gr V) C
      cases h
    cases h
variable {dr:Z6}{call:j8}
theorem DY (o:iO P dr)(Q:O9 P call)(K:∀g,Ew P g (runD g))(n:Nat)(g:Ay):Jo P g (X3 P dr call runD n g):=by
 intro args hp v hp' h B w0 σ w args' M O;simp only[X3]at h;split at h
 ·rename_i fn p;split at h
  ·rename_i c hc;have J:∀e tm1 hp1 b,(e= .normal\/e= .ret)->p8 P dr call (args.length+(fn.ntmps-args.length)) none n c (fill .e 0 args) hp []=some (.mk e tm1 hp1 b)->
     vO P fn runD tm1 hp1 b=some (v,hp')->
     Calls P g args'.toArray w (fun e w'=>∃σ' u,e= .returned u/\Sg.gr hp.nx hp'.nx σ σ'/\VR σ' v u/\HR B w0 σ' hp' w'):=by
    intro e tm1 hp1 b he hx hr;unfold vO at hr;split at hr
    ·rename_i d r;split at hr
     ·rename_i vs A;simp at hr;obtain⟨rfl,rfl⟩:=hr;refine callsIn_wide.1 (callsIn_of_wp_marks p hc trivial (Rk ((pT Q o n).1 c _ hp [] e tm1 hp1 b σ {tmps:=args'.toArray++Array.replicate (fn.ntmps-args'.toArray.size) undef,defers:=[]} w none hx (TR.start M fn.ntmps) O trivial trivial) fun e' m w' hq=>?_));obtain⟨rfl,σ',q,N,ht,C⟩:=hq;have hL:LeavesInM Fence.wide 0 P fn m.tmps (fun e w'=>∃σ' u,e= .returned u/\Sg.gr hp.nx d.nx σ σ'/\VR σ' (iM vs) u/\HR B w0 σ' d w') m.defers .returning w':=
       BW K b m.defers hp1 d σ' w' r N C fun E T G f=>by obtain⟨us,t,z⟩:=X6 (ht.mono G.le) f A;obtain⟨r1,R⟩:=pK t z;exact⟨_,r1,E,_,rfl,RV q G,R,f⟩
      rcases he with rfl|rfl;exact hL;exact hL
     grind
    grind
   grind
  cases h
 cases h
theorem BN (o:iO P dr)(M:O9 P call)(n:Nat)(g:Ay):Ew P g (X4 P dr call n g):=by
 intro args hp v hp' h B w0 σ w args' J K C;simp only[X4]at h;split at h
 ·rename_i fn p;split at h
  ·rename_i c hc;have E:∀e tm1 hp1,(e= .normal\/e= .ret)->p8 P dr call (args.length+(fn.ntmps-args.length)) none n c (fill .e 0 args) hp []=some (.mk e tm1 hp1 [])->
     vO P fn (fun _ _ _=>none) tm1 hp1 []=some (v,hp')->
     CallsDIn Fence.wide 0 P g args'.toArray C w (fun e N w'=>N=C/\ ∃σ' u,e= .returned u/\Sg.gr hp.nx hp'.nx σ σ'/\VR σ' v u/\HR B w0 σ' hp' w'):=by
    intro e tm1 hp1 he hx hr;simp only[vO,K6]at hr;split at hr
    ·rename_i vs t;simp at hr;obtain⟨rfl,rfl⟩:=hr;refine callsDIn_of_wp p hc trivial
      (Rk ((pT M o n).1 c _ hp [] e tm1 hp1 [] σ {tmps:=args'.toArray++Array.replicate (fn.ntmps-args'.toArray.size) undef,defers:=[]} w none hx (TR.start J fn.ntmps) K trivial trivial) fun e' z w' hq=>?_)
     obtain⟨rfl,σ',m,f,ht,b⟩:=hq;obtain⟨us,q,r⟩:=X6 ht b t;obtain⟨r1,A⟩:=pK q r;have f:z.defers=[]:=by
      cases G:z.defers with
      |nil=>rfl|cons d D=>rw[G]at f;exact f.elim
     rcases he with rfl|rfl;exact⟨f,_,r1,σ',_,rfl,m,A,b⟩;exact⟨f,_,r1,σ',_,rfl,m,A,b⟩
    grind
   grind
  cases h
 cases h
def BZ (b:iO P dr)(c:O9 P call)(m:Nat):∀i args hp v hp',Gx P dr call m i args hp=some (v,hp')-> ∀B w0 σ w args' p,σ i=some p->VRL σ args args'->HR B w0 σ hp w-> ∃r,w.heap[p.blk]? =some (.loop r)/\args'.length=r.params.size/\RoundIn Fence.wide 0 P p.blk r.fn ((r.params.zip args'.toArray).foldl (fun tmps (t,a)=>tmps.setIfInBounds t a) r.tmps) r.assign r.body w (fun e w'=>∃σ' u,e= .returned u/\Sg.gr hp.nx hp'.nx σ σ'/\VR σ' v u/\HR B w0 σ' hp' w'):=by intro i args hp v hp' h;cases h
theorem uO {E:Sg}{ha:Hp}{w':Bc}{i j a N:Nat}{U V:Blk}{la ca:Nat}{W c2:Ao}{k k2 G e z:Nat}{u:Av}(X:HR B w0 σ hp w)(ay:hp.m.get i=some U)(az:hp.m.get j=some V)(hr:HR (rest B σ ⟨(T.set .e i (some U)).set j (some V),hp.nx⟩ w) w E ha w')(gr:Sg.gr hp.nx ha.nx σ E)(hv:VR E (.slice (some ⟨a,G,none⟩) la ca) u)(aw:unk<=ca)(aa:ha.m.get a=some (.cells c2 k2 e z))(hk:G+k<=k2)(hc:∀x,x<k->W.get x=c2.get (G+x))(an:∀x v,x<k->W.get x=some v->noR v=true)(hN:ha.nx<=N):∃σ',Sg.gr hp.nx (N+1) σ σ'/\VR σ' (.slice (some ⟨N,0,none⟩) la (d8 la 0)) u/\HR B w0 σ' ⟨((hp.m.set i none).set j none).set N (some (.cells W k e z)),N+1⟩ w':=by
 have K:∀x b,((T.set .e i (some U)).set j (some V):T Blk).get x=some b->(x=i\/x=j)/\hp.m.get x=some b:=by intro x b hg;rw[Sa]at hg;by_cases hj:x=j;grind;rw[PE hj,Sa]at hg;by_cases hi:x=i;grind;rw[PE hi]at hg;simp[RZ]at hg
 have ar:HR B w0 σ ⟨(T.set .e i (some U)).set j (some V),hp.nx⟩ w:=X.less (fun x b hg=>(K x b hg).2);have hb:=ar.back hr;cases hv with
 | slice _ _ p _ _ c' ad ai ac =>
 have aj:E N=none:=hb.fresh N hN;let t : Sg:=⟨fun i r=>if r=0 then E.f i 0 else σ.f i r⟩
 have J:∀i,t i=E i:=fun i=>rfl;have Z:∀i r,r≠0->t.f i r=σ.f i r:=fun i r h=>PE h;have c:Sg.le σ t:=fun i p {r} h=>by by_cases h0:r=0;subst h0;exact(J i).trans (gr.le _ _ h);grind
 have A:=RW (σ:=t) (i:=N) {p with dl:=p.dl+G} ((J N).trans aj);have ba:=gr.nx;obtain⟨p',o,l1,l2,l3,l4⟩:=hb.live a _ aa;have:p'=p:=PK (l1.symm.trans ad);subst this;obtain⟨q',o',r1,r2,r3,_⟩:=hr.live a _ aa;have:q'=p':=PK (r1.symm.trans ad);subst this;have old:∀x b,x≠N->((((hp.m.set i none).set j none).set N (some (.cells W k e z))):T Blk).get x=some b->hp.m.get x=some b/\ ∀r,Ix b r-> ∃q o,σ.f x r=some q/\NB B q.blk b/\w.heap[q.blk]? =some o/\BX σ q r b o/\rest B σ ⟨(T.set .e i (some U)).set j (some V),hp.nx⟩ w q.blk:=by
  intro x b n hg;rw[Sa,PE n,Sa]at hg;by_cases hj:x=j;grind
  ·rw[PE hj,Sa]at hg;by_cases hi:x=i;grind
   ·rw[PE hi]at hg;refine⟨hg,fun r hx=>?_⟩;obtain⟨q,o,h1,h2,h3,h4⟩:=X.liv x b r hg hx;refine⟨q,o,h1,h2,h3,h4,.inr ⟨(Pz.1 h3).1,fun y b' s q' hy M ap=>?_⟩⟩;obtain⟨av,ak⟩:=K y b' hy;have au:y≠x:=by grind
    exact X.ij y x _ _ s r q' q ak hg M hx (.inl au) ap h1
 refine⟨t.ext N {q' with dl:=q'.dl+G},⟨Sg.le_trans c A,fun x hx=>(RQ _ _ _ (by omega)).trans ((J x).trans (gr.low x hx)),by omega⟩,?_,?_⟩;have:=VR.slice (σ:=t.ext N {q' with dl:=q'.dl+G}) N 0 {q' with dl:=q'.dl+G} la (d8 la 0) c' (RT _ _ _) (.inr ⟨u9 _ _,by rw[I7 G7];exact ac,.inl (H5 G7),by rcases ai with⟨_,h⟩| ⟨_,_,_,h⟩;omega;exact h⟩) ac;exact this
 ·refine⟨hb.os,hb.tape,hb.output,hb.size,hb.old,hb.kept,fun x r hx=>(RR _ _ _ (.inl (by have:N+1<=x:=hx;omega))).trans (by have h1:N+1<=x:=hx;by_cases h0:r=0;subst h0;exact(J x).trans (hb.frs x 0 (by omega));exact(Z x r h0).trans (X.frs x r (by have:=gr.nx;omega))),?_,?_,fun x b hg ae=>?_⟩;intro x b r hg d;by_cases hx:x=N;subst hx;rw[Sa,PG rfl]at hg;cases hg;have R:r=0:=d;subst R;obtain⟨C,e1,e2,Y,e4,e5⟩:=l4;refine⟨{q' with dl:=q'.dl+G},o,RT _ _ _,l2,l3,C,e1,e2,Y,(by show q'.dl+G+k<=q'.siz;omega),fun y hy=>?_⟩;obtain⟨v,u,a1,a2,a3⟩:=e5 (G+y) (by omega);exact⟨v,u,(hc y hy).trans a1,(by show C[q'.dl+G+y]? =some u;rw[Qv];exact a2),(a3.noR (fun i p h=>(J i).trans h) (an y v hy ((hc y hy).trans a1))).mono A⟩;obtain⟨ax,ho⟩:=old x b hx hg;obtain⟨q,o,h1,h2,h3,h4,h5⟩:=ho r d;exact⟨q,o,A _ _ (c _ _ h1),h2,(hr.kept _ h5).trans h3,h4.mono (Sg.le_trans c A)⟩
  ·intro x y O b2 r s p1 p2 hx hy d M al hp1 ao;have ah:∀x O r p1,((((hp.m.set i none).set j none).set N (some (.cells W k e z))):T Blk).get x=some O->Ix O r->(t.ext N {q' with dl:=q'.dl+G}).f x r=some p1->
     (x=N/\r=0/\p1.blk=q'.blk)\/(x≠N/\hp.m.get x=some O/\σ.f x r=some p1/\rest B σ ⟨(T.set .e i (some U)).set j (some V),hp.nx⟩ w p1.blk):=by
    intro x O r p1 hx d hp1;by_cases n:x=N;subst n;rw[Sa,PG rfl,Pj]at hx;subst hx;have R:r=0:=d;subst R;exact .inl ⟨rfl,rfl,by rw[PK (hp1.symm.trans (RT _ _ _))]⟩;obtain⟨ab,ho⟩:=old x O n hx;obtain⟨q,o,h1,_,_,_,h5⟩:=ho r d;have e1:p1=q:=PK (hp1.symm.trans (A _ _ (c _ _ h1)));grind
   rcases ah x O r p1 hx d hp1 with⟨e1,e2,Y⟩| ⟨e1,e2,Y,e4⟩<;>rcases ah y b2 s p2 hy M ao with⟨k1,k2,k3⟩| ⟨k1,k2,k3,k4⟩;omega;exact fun Q=>r2 (Y▸Q▸k4);exact fun Q=>r2 (k3▸Q▸e4);exact X.ij x y _ _ r s _ _ e2 k2 d M al Y k3
  ·have n:x≠N:=by rintro rfl;have hg:((((hp.m.set i none).set j none).set x (some (.cells W k e z))):T Blk).get x=some b:=hg;rw[Sa,PG rfl,Pj]at hg;subst hg;cases ae
   obtain⟨ab,_⟩:=old x b n hg;obtain⟨⟨q,hq⟩,aq⟩:=X.rz x b ab ae;exact⟨⟨q,A _ _ (c _ _ hq)⟩,fun r h0 hx=>by rw[RR _ _ _ (.inl n),Z x r h0];exact aq r h0 hx⟩
theorem Ce {f:Ay}{R:Af->Hp->Bb (Av×Hp)}(hR:Jo P f R):Jo P f (Cd R):=by
 intro args hp v hp' h B w0 σ w args' J hw;unfold Cd at h;split at h;case h_2=>cases h
 rename_i i o0 l c x j o m cm;cases hb:Nat.ble unk c&&Nat.beq (E8 c) 0&& !(Nat.beq i j)&&Nat.ble (l+m) 67108864 with
 |false=>grind|true=>
 rw[hb,PB]at h;simp only[Pk]at hb;obtain⟨⟨⟨b1,b2⟩,b3⟩,b4⟩:=hb;have b1:=Pp b1;have b4:=Pp b4;split at h;case h_2=>cases h
 rename_i bi bj aa ab;split at h;case h_2=>cases h
 rename_i a oa X ca ha b ob lb cb Z hA hB;cases q:Nat.beq X lb&&Nat.ble unk ca&&Nat.ble unk cb with
 |false=>grind|true=>
 rw[q,PB]at h;simp only[Pk]at q;have d1:=Pq q.1.1;have d2:=Pp q.1.2;have d3:=Pp q.2;subst d1;split at h;case h_2=>cases h
 rename_i c1 k1 e1 Y c2 k2 e2 z2 ai aj;cases n:Nat.ble (oa+X*Y) k1&&Nat.ble (ob+X*Y) k2&&Nat.beq e1 e2&&Nat.beq Y z2 with
 |false=>grind|true=>
 rw[n,PB]at h;simp only[Pk]at n;have f0:=Pp n.1.1.1;have f1:=Pp n.1.1.2;have f2:=Pq n.1.2;have f3:=Pq n.2;subst f2;subst f3;split at h;case h_2=>cases h
 rename_i z v2 ac ak;cases d:(qD (veq 100) z v2||clEq z v2)&&z.all noR with
 |false=>grind|true=>
 rw[d,PB]at h;cases h;rw[Pk]at d;obtain⟨G,aq⟩:=d;have an:z=v2:=by rw[QL]at G;exact G.elim (gA (LX 100)) Mm
 subst an;have al:=(t8 ac).1;have A:∀x,x<X*Y->(fill .e 0 z).get x=c1.get (oa+x):=by intro x hx;rw[<-(t8 ac).2 x hx];exact C7 z x (by omega)
 have ae:∀x v,x<X*Y->(fill .e 0 z).get x=some v->noR v=true:=by intro x v hx hg;rw[C7 z x (by omega)]at hg;grind
 have O:∀x,x<X*Y->(fill .e 0 z).get x=c2.get (ob+x):=by intro x hx;rw[<-(t8 ak).2 x hx];exact C7 z x (by omega)
 have W:∀x b,((T.set .e i (some bi)).set j (some bj):T Blk).get x=some b->hp.m.get x=some b:=by intro x b hg;rw[Sa]at hg;by_cases hj:x=j;grind;rw[PE hj,Sa]at hg;by_cases hi:x=i;grind;rw[PE hi]at hg;simp[RZ]at hg
 have E:=(hw.less W).max;obtain⟨s',r,rfl,hs,t⟩:=J.uncons;cases hs with
 | slice _ _ p _ _ c' ah ar K =>
 obtain⟨ap,C⟩:O1 c<=c'/\p.dl+o0+c'*p.esz<=p.siz:=by grind
 have ad:l+m<unk:=by unfold unk;omega
 by_cases M:l+m<=c'
 ·have Q:VR σ (.slice (some ⟨i,o0,none⟩) l (d8 (l+m) 0)) (.slice (some ⟨p.blk,p.dl+o0,none⟩) l c'):=
   .slice i o0 p l _ c' ah (.inr ⟨u9 _ _,by rw[I7 G7];exact M,.inl (H5 G7),C⟩) K
  refine(hR _ _ _ _ hA _ _ _ _ _ (Sn Q t) E).mono fun e w' he=>?_;obtain⟨ao,u,rfl,gr,U,V⟩:=he;obtain⟨σ',q1,q2,q3⟩:=uO (N:=Nat.max ha.nx Z.nx) hw aa ab V gr U d2 ai f0 A ae (Nat.le_max_left _ _);grind
 ·have Q:VR σ (.slice (some ⟨i,o0,none⟩) l (d8 l (l+m))) (.slice (some ⟨p.blk,p.dl+o0,none⟩) l c'):=
   .slice i o0 p l _ c' ah (.inr ⟨u9 _ _,by rw[I7 ad];exact K,.inr (by rw[H5 ad];omega),C⟩) K
  refine(hR _ _ _ _ hB _ _ _ _ _ (Sn Q t) E).mono fun e w' he=>?_;obtain⟨ao,u,rfl,gr,U,V⟩:=he;obtain⟨σ',q1,q2,q3⟩:=uO (N:=Nat.max ha.nx Z.nx) hw aa ab V gr U d3 aj f1 O ae (QF _ _);grind
theorem Pe (m:HR B w0 σ hp w){args args':Af}(h:VRL σ args args'):VRL σ (wkA hp args) args':=by
 unfold wkA;split
 ·rename_i i o l c xs;cases hc:Nat.ble c 67108864 with
  |false=>exact h|true=>
  split
  ·rename_i cs k e z hg;cases hk:Nat.ble (o+c*z) k with
   |false=>exact h|true=>
   have hc:=Pp hc;have hk:=Pp hk;have f:c<unk:=by unfold unk;omega
   obtain⟨y,ys,rfl,h1,h2⟩:=h.uncons;refine Sn ?_ h2;cases h1 with
   |slice _ _ p _ _ c' d b hl=>obtain⟨k1,k2⟩:=m.place hg d;rcases b with⟨rfl,_⟩| ⟨b,_⟩;exact .slice i o p l _ _ d (.inr ⟨u9 _ _,by rw[I7 (by omega)];exact PH _,.inl (H5 (by omega)),by grind⟩) hl;omega
  exact h
 exact h
theorem Ct (b:iO P dr){ov:Aa}(c:∀g t,ov g=some t->iQ P g t):∀n,O9 P (aQ P dr ov n):=by
 intro n;induction n with
 |zero=>exact⟨(fun g args hp v hp' h=>by cases h),c,(fun i args hp v hp' h=>by cases h)⟩|succ n m=>
  refine⟨fun g args hp v hp' h=>?_,c,BZ b m n⟩;simp only[aQ,iN]at h;cases ht:isT (ov g)&&args.isEmpty with
  |true=>
   rw[ht,PB]at h;cases h;rw[Pk]at ht;intro B w0 σ w args' d f;obtain rfl:=List.isEmpty_iff.1 ht.2;obtain rfl:=d.unnil;have h1:=ht.1;unfold isT at h1;split at h1
   ·rename_i t e;rcases c g t e with⟨_,k⟩| ⟨k,_⟩;exact(k w).mono fun e w' he=>⟨σ,_,he.1,RU _ σ,.bool true,f.below he.2⟩
    simp_all
   grind
  |false=>
  rw[ht,PC]at h;have hb:=DY b m (BN b m n) n g;intro B w0 σ w args' d f;have d:VRL σ (bif wkF P g then wkA hp args else args) args':=by
   cases wkF P g with
   |true=>exact Pe f d|false=>grind
  split at h;rename_i r hr;cases h;exact hb _ hp v hp' hr B w0 σ w args' d f;exact Ce hb _ hp v hp' h B w0 σ w args' d f
end
structure Ent where
 i:Nat
 o:Oper
 pre:Nat
 tm:Ao
 S:Hp
 S2:Hp
 I:Nat
 wt:Bool
 r:Av
 nw:Bb Nw
def takes (nx0:Nat)(m:Nat->Bool):List Ent->Hp->Hp
 | [],S=>S|e::es,S=>match e.nw with
  |some n=>bif m e.i then takes nx0 m es (S.take (nx0+e.i) n)else takes nx0 m es S|none=>takes nx0 m es S
def wB (pre I:Nat)(j:Nat):Bool:=pre.testBit j&& !I.testBit j
def Bh (I:Nat)(j:Nat):Bool:= !I.testBit j
structure Out where
 tm:Ao
 S:Hp
 I:Nat
 es:List Ent
def xgo (P:Aw)(call:j8)(nt:Nat)(all:An)(nx0:Nat):List (Oper×Nat)->Nat->Ao->Hp->Nat->List Ent->Bb Out
 | [],_,tm,S,I,es=>some ⟨tm,S,I,es⟩| (o,pre)::rest,i,tm,S,I,es=>
  bif F7 nt o.dst then
   bif y5 all tm o then
    match i7 o.op with
    |0=>match xop P call tm S o.op with
     |some (v,_)=>xgo P call nt all nx0 rest (i+1) (B4 tm o.dst v) S I (⟨i,o,pre,tm,S,S,I,true,v,none⟩::es)|none=>none
    |1=>match xrd P tm S o.op with
     |some v=>xgo P call nt all nx0 rest (i+1) (B4 tm o.dst v) S I (⟨i,o,pre,tm,S,S,I,true,v,none⟩::es)|none=>none
    |2=>match xnw P tm o.op with
     |some n=>xgo P call nt all nx0 rest (i+1) (B4 tm o.dst (n.val (nx0+i))) S I (⟨i,o,pre,tm,S,S,I,true,n.val (nx0+i),some n⟩::es)|none=>none
    |_=>match xop P call tm (takes nx0 (wB pre I) es S) o.op with
     |some (v,S2)=>xgo P call nt all nx0 rest (i+1) (B4 tm o.dst v) S2 (I|||pre) (⟨i,o,pre,tm,S,S2,I,true,v,none⟩::es)|none=>none
   else xgo P call nt all nx0 rest (i+1) (B4 tm o.dst undef) S I (⟨i,o,pre,tm,S,S,I,false,undef,none⟩::es)
  else none
structure Ex (P:Aw)(call:j8)(nt:Nat)(all:An)(nx0:Nat)(e:Ent)(es:List Ent)(tm':Ao)(S':Hp)(I':Nat):Prop where
 dst:F7 nt e.o.dst=true
 wt:e.wt=y5 all e.tm e.o
 tm:tm'=B4 e.tm e.o.dst e.r
 S2:e.S2=S'
 un:e.wt=false->e.r=undef/\e.nw=none
 low:(e.wt=false\/i7 e.o.op≠3)->S'=e.S/\I'=e.I
 k0:e.wt=true->i7 e.o.op=0-> ∀S,xop P call e.tm S e.o.op=some (e.r,S)
 k1:e.wt=true->i7 e.o.op=1->xrd P e.tm e.S e.o.op=some e.r
 k2:e.wt=true->i7 e.o.op=2-> ∃n,xnw P e.tm e.o.op=some n/\e.r=n.val (nx0+e.i)/\e.nw=some n
 k3:e.wt=true->3<=i7 e.o.op->xop P call e.tm (takes nx0 (wB e.pre e.I) es e.S) e.o.op=some (e.r,S')/\I'=e.I|||e.pre
 nw:i7 e.o.op≠2->e.nw=none
inductive L5 (P:Aw)(call:j8)(nt:Nat)(all:An)(nx0:Nat)(tmN:Ao)(SN:Hp)(IN:Nat):List Ent->List Ent->Ao->Hp->Nat->Prop
 |nil (es:List Ent):L5 P call nt all nx0 tmN SN IN es [] tmN SN IN
 | cons (e : Ent) (es s : List Ent) (tm' : Ao) (S' : Hp) (I' : Nat) (hi : e.i = es.length) (h : Ex P call nt all nx0 e es tm' S' I')
   (hc:L5 P call nt all nx0 tmN SN IN (e::es) s tm' S' I'):L5 P call nt all nx0 tmN SN IN es (e::s) e.tm e.S e.I
theorem tJ (o:Op):i7 o<=3:=by unfold i7;grind
section
variable {P :Aw}{call:j8}{nt:Nat}{all:An}{nx0:Nat}{tmN:Ao}{SN:Hp}{IN:Nat}
theorem IZ :∀(ps:List (Oper×Nat)) (i:Nat) (tm:Ao) (S:Hp) (I:Nat) (es:List Ent) (b:Out),xgo P call nt all nx0 ps i tm S I es=some b->i=es.length-> ∃s,b.es=s.reverse++es/\s.map (fun e=>(e.o,e.pre))=ps/\L5 P call nt all nx0 b.tm b.S b.I es s tm S I:=by
 intro ps;induction ps with
 |nil=>intro i tm S I es b h hi;simp only[xgo,Pj]at h;subst h;exact⟨[],rfl,rfl,.nil es⟩
 |cons p ps u=>
  intro i tm S I es b h hi;obtain⟨o,pre⟩:=p;simp only[xgo]at h;cases d:F7 nt o.dst with
  |false=>grind|true=>
   rw[d,PB]at h;have next:∀(e:Ent) (S':Hp) (I':Nat),e.i=i->e.o=o->e.pre=pre->e.tm=tm->e.S=S->e.I=I->Ex P call nt all nx0 e es (B4 tm o.dst e.r) S' I'->
     xgo P call nt all nx0 ps (i+1) (B4 tm o.dst e.r) S' I' (e::es)=some b->
     ∃s,b.es=s.reverse++es/\s.map (fun e=>(e.o,e.pre))=(o,pre)::ps/\L5 P call nt all nx0 b.tm b.S b.I es s tm S I:=by
    rintro e S' I' rfl rfl rfl rfl rfl rfl hs hx;obtain⟨s,h1,h2,h3⟩:=u _ _ _ _ _ _ hx (by grind);exact⟨e::s,by grind,by grind,.cons e es s _ _ _ hi hs h3⟩
   cases c:y5 all tm o with
   |false=>rw[c,PC]at h;refine next ⟨i,o,pre,tm,S,S,I,false,undef,none⟩ S I rfl rfl rfl rfl rfl rfl ⟨d,c.symm,rfl,rfl,fun _=>⟨rfl,rfl⟩,fun _=>⟨rfl,rfl⟩,?_,?_,?_,?_,fun _=>rfl⟩ h<;>(intro hf;cases hf)
   |true=>
    rw[c,PB]at h;split at h
    ·rename_i hk;split at h
     ·rename_i v S2 hx;obtain⟨r,hr⟩:=Ej hk;have f:r=some v:=by rw[hr]at hx;exact(j6 hx).1
      refine next ⟨i,o,pre,tm,S,S,I,true,v,none⟩ S I rfl rfl rfl rfl rfl rfl ⟨d,c.symm,rfl,rfl,fun hf=>(by grind),fun _=>⟨rfl,rfl⟩,fun _ _ S=>?_,fun _ h1=>?_,fun _ h1=>?_,fun _ h1=>?_,fun _=>rfl⟩ h
      rw[hr,f];rfl;grind;grind;grind
     cases h
    ·rename_i hk;split at h
     ·rename_i v hx;refine next ⟨i,o,pre,tm,S,S,I,true,v,none⟩ S I rfl rfl rfl rfl rfl rfl ⟨d,c.symm,rfl,rfl,fun hf=>(by grind),fun _=>⟨rfl,rfl⟩,fun _ h1=>?_,fun _ _=>hx,fun _ h1=>?_,fun _ h1=>?_,fun _=>rfl⟩ h
      grind;grind;grind
     cases h
    ·rename_i hk;split at h
     ·rename_i n hx;refine next ⟨i,o,pre,tm,S,S,I,true,n.val (nx0+i),some n⟩ S I rfl rfl rfl rfl rfl rfl ⟨d,c.symm,rfl,rfl,fun hf=>(by grind),fun _=>⟨rfl,rfl⟩,fun _ h1=>?_,fun _ h1=>?_,fun _ _=>⟨n,hx,rfl,rfl⟩,fun _ h1=>?_,fun h1=>absurd hk h1⟩ h
      grind;grind;grind
     cases h
    ·rename_i m q t;have h3:i7 o.op=3:=by have:=tJ o.op;grind
     split at h
     ·rename_i v S2 hx;refine next ⟨i,o,pre,tm,S,S2,I,true,v,none⟩ S2 (I|||pre) rfl rfl rfl rfl rfl rfl ⟨d,c.symm,rfl,rfl,fun hf=>(by grind),fun hl=>?_,fun _ h1=>?_,fun _ h1=>?_,fun _ h1=>?_,fun _ _=>⟨hx,rfl⟩,fun _=>rfl⟩ h
      grind;grind;grind;grind
     cases h
variable {es s:List Ent}{tm:Ao}{S:Hp}{I:Nat}
theorem L5.get (h:L5 P call nt all nx0 tmN SN IN es s tm S I):∀ {k:Nat} {e:Ent},s[k]? =some e->e.i=es.length+k/\ ∃tm' S' I',Ex P call nt all nx0 e ((s.take k).reverse++es) tm' S' I'/\L5 P call nt all nx0 tmN SN IN (e::((s.take k).reverse++es)) (s.drop (k+1)) tm' S' I':=by induction h<;>grind
theorem L5.upTo (h:L5 P call nt all nx0 tmN SN IN es s tm S I):∀ {k:Nat} {e:Ent},s[k]? =some e->L5 P call nt all nx0 e.tm e.S e.I es (s.take k) tm S I:=by
 induction h with
 |nil es=>grind|cons e0 es s tm' S' I' hi hs hc b=>
  intro k e h;cases k with
  |zero=>simp at h;subst h;exact .nil es|succ k=>exact .cons e0 es _ tm' S' I' hi hs (b h)
theorem L5.tm_none (h:L5 P call nt all nx0 tmN SN IN es s tm S I){t:Nat}(hn:∀e∈s,e.o.dst≠some t):tmN.get t=tm.get t:=by
 induction h with
 |nil es=>rfl|cons e0 es s tm' S' I' hi hs hc b=>
  rw[b (fun e he=>hn e (by grind)),hs.tm];have h0:=hn e0 (by simp);unfold B4;cases c:e0.o.dst with
  |none=>rfl|some d=>rw[Sa,PE (fun e=>h0 (by grind))]
theorem L5.tm_some (h:L5 P call nt all nx0 tmN SN IN es s tm S I):∀ {k:Nat} {e:Ent} {t:Nat},s[k]? =some e->e.o.dst=some t->(∀(j:Nat) e',s[j]? =some e'->j≠k->e'.o.dst≠some t)->tmN.get t=some e.r:=by
 induction h with
 |nil es=>grind|cons e0 es s tm' S' I' hi hs hc m=>
  intro k e t h c d;cases k with
  |zero=>
   simp at h;subst h;have b:∀e∈s,e.o.dst≠some t:=by intro e he;obtain⟨j,hj,rfl⟩:=List.mem_iff_getElem.1 he;exact d (j+1) _ (by simp) (by omega)
   rw[hc.tm_none b,hs.tm];unfold B4;rw[c,Sa,PG rfl]
  |succ k=>exact m h c (fun j e' hj f=>d (j+1) e' (by grind) (by omega))
theorem L5.still (h:L5 P call nt all nx0 tmN SN IN es s tm S I)(hn:∀e∈s,i7 e.o.op≠3):SN=S/\IN=I:=by
 induction h with
 |nil es=>grind|cons e0 es s tm' S' I' hi hs hc b=>obtain⟨h3,h4⟩:=hs.low (.inr (hn e0 (by simp)));grind
end
section
variable {P :Aw}{B:BS}{w0:Bc}{σ:Sg}{hp:Hp}{w:Bc}
variable {id:Nat}
theorem Ext.take {d b b':Nat}{n n':Nw}(h:Ext B σ hp w id n b)(h':Ext B σ hp w d n' b')(hb:b≠b'):Ext B σ (hp.take id n) w d n' b':=by obtain⟨p,o,f,m,t,u,v,z⟩:=h';obtain⟨q,D,A,C,_⟩:=h;refine⟨p,o,f,m,t,u,v,?_⟩;intro i c x r hg hx hr;simp only[Hp.take,Sa]at hg;by_cases hi:i=id;rw[PG hi,Pj]at hg;subst hi;subst hg;have:=(Ry n.rg).1 hx;grind;grind
def Ext.step {f S2:Hp}{b:Nat}{n:Nw}(h:Ext B σ f w id n b){σ':Sg}{w':Bc}(k:HR (rest B σ f w) w σ' S2 w')(d:Sg.le σ σ'):Ext B σ' S2 w' id n b:=by
 obtain⟨p,o,z,A,u,C,v,E⟩:=h;have hr:rest B σ f w b:= .inr ⟨(Pz.1 u).1,fun i c r q hg hx hq=>E i c r q hg hx hq⟩;refine⟨p,o,d _ _ z,A,by rw[k.kept b hr];exact u,C.mono d,v,?_⟩;intro i c r q hg hx hq t;obtain⟨q',D,G,m,_⟩:=k.liv i c r hg hx;have:q'=q:=PK (G.symm.trans hq);subst this;rw[t]at m;cases hc:bY c with
 |true=>exact v (B.sub _ (m.yes hc))|false=>exact m.no hc hr
theorem Ext.lay {d b':Nat}{n':Nw}(h':Ext B σ hp w d n' b')(A:HR B w0 σ hp w)(f:σ id=none)(m:Pl)(o:Obj):Ext B (σ.ext id m) hp (w.alloc o) d n' b':=by obtain⟨p,C,n,t,h,u,v,E⟩:=h';have b:=RW m f;refine⟨p,C,b _ _ n,t,by rw[Below.heap_alloc _ _ _ (Pz.1 h).1];exact h,u.mono b,v,?_⟩;intro i c r q hg hx hq;obtain⟨q',D,z,_⟩:=A.liv i c r hg hx;have:=(b _ _ z).symm.trans hq;grind
theorem LQ {nx0:Nat}{m:Nat->Bool}:∀(es:List Ent) {hp:Hp},HR B w0 σ hp w->(∀(j:Nat) e n,es[j]? =some e->e.nw=some n->m e.i=true-> ∃b,Ext B σ hp w (nx0+e.i) n b)->(∀(j j':Nat) e e' n n' b b',es[j]? =some e->es[j']? =some e'->j≠j'->e.nw=some n->e'.nw=some n'->m e.i=true->m e'.i=true->Ext B σ hp w (nx0+e.i) n b->Ext B σ hp w (nx0+e'.i) n' b'->b≠b')->HR B w0 σ (takes nx0 m es hp) w/\(takes nx0 m es hp).nx=hp.nx/\ ∀c n' b',Ext B σ hp w c n' b'->(∀(j:Nat) e n b,es[j]? =some e->e.nw=some n->m e.i=true->Ext B σ hp w (nx0+e.i) n b->b≠b')->Ext B σ (takes nx0 m es hp) w c n' b':=by
 intro es;induction es with
 |nil=>intro hp E _ _;exact⟨E,rfl,fun c n' b' h _=>h⟩
 |cons e es N=>
  intro hp E h1 h2;cases hn:e.nw with
  |none=>simp only[takes,hn];obtain⟨r,t,u⟩:=N E (fun j e n hj=>h1 (j+1) e n (by grind)) (fun j j' e e' n n' b b' hj d f=>h2 (j+1) (j'+1) e e' n n' b b' (by grind) (by simpa using d) (by omega));exact⟨r,t,fun c n' b' hx o=>u c n' b' hx (fun j e n b hj=>o (j+1) e n b (by grind))⟩
  |some n=>
   cases hm:m e.i with
   |false=>simp only[takes,hn,hm,PC];obtain⟨r,t,u⟩:=N E (fun j e n hj=>h1 (j+1) e n (by grind)) (fun j j' e e' n n' b b' hj d f=>h2 (j+1) (j'+1) e e' n n' b b' (by grind) (by simpa using d) (by omega));exact⟨r,t,fun c n' b' hx o=>u c n' b' hx (fun j e n b hj=>o (j+1) e n b (by grind))⟩
   |true=>
    simp only[takes,hn,hm,PB];obtain⟨b,hb⟩:=h1 0 e n rfl hn hm;have keep:∀ {c:Nat} {n':Nw} {b':Nat},Ext B σ hp w c n' b'->b≠b'->Ext B σ (hp.take (nx0+e.i) n) w c n' b':=fun hx f=>hb.take hx f;have back:∀ {c:Nat} {n':Nw} {b' K:Nat},Ext B σ hp w c n' b'->Ext B σ (hp.take (nx0+e.i) n) w c n' K->K=b':=by intro c n' b' K hx hy;obtain⟨p,_,M,Q,_⟩:=hx;obtain⟨q,_,Y,Z,_⟩:=hy;grind
    obtain⟨r,t,u⟩:=N (E.take hb)
     (fun j e' n' hj C A=>by obtain⟨b',z⟩:=h1 (j+1) e' n' (by simpa using hj) C A;exact⟨b',keep z (h2 0 (j+1) e e' n n' b b' rfl (by grind) (by omega) hn C hm A hb z)⟩)
     (fun j j' v R G U W K hj d f k1 k2 k3 T O X=>by obtain⟨M,J⟩:=h1 (j+1) v G (by simpa using hj) k1 k3;obtain⟨Q,V⟩:=h1 (j'+1) R U (by simpa using d) k2 T;rw[back J O,back V X];exact h2 (j+1) (j'+1) v R G U M Q (by simpa using hj) (by simpa using d) (by omega) k1 k2 k3 T J V)
    refine⟨r,t,fun c n' b' hx o=>u c n' b' (keep hx (o 0 e n b rfl hn hm hb)) (fun j v G W hj k1 k3 O=>?_)⟩;obtain⟨M,J⟩:=h1 (j+1) v G (by simpa using hj) k1 k3;rw[back J O];exact o (j+1) v G M (by simpa using hj) k1 k3 J
end
def xpre (pres:Ah)(o:Oper):Nat:=
 o.after.toList.foldl (fun s e=>bif Region.binds .any e then(s|||2^e.on)|||pres.getD e.on 0 else s) 0
def dQ :An->Ah->Ah
 | [],acc=>acc|o::os,acc=>dQ os (acc++ [xpre acc o])
def KG (s:Nat):Az->Nat
 | .tmp t=>s|||2^t
 |_=>s
def sO (all:An)(o:Oper):Nat:=
 o.op.operands.toList.foldl KG (match o.guard with
  |some (g,_)=>match all[g]? with
   |some p=>match p.dst with
    |some d=>2^d|none=>0
   |none=>0
  |none=>0)
structure Inf where
 o:Oper
 pre:Nat
 i:Nat
 lk:Nat
 wr:Bool
def infs (all:An)(pres:Ah):List Inf:=((all.zip pres).zipIdx).map fun x=>⟨x.1.1,x.1.2,x.2,sO all x.1.1,Nat.beq (i7 x.1.1.op) 3⟩
def NI (o:Oper)(t:Nat):Bool:=match o.dst with|some d=>Nat.beq d t|none=>false
def s1 (pres:Ah)(x:Inf):Bool:=Nat.beq x.pre (xpre pres x.o)&&x.o.after.toList.all (fun e=> !(Region.binds .any e)||Nat.blt e.on x.i)
def s2 (x y:Inf):Bool:=
 bif Nat.beq x.i y.i then true else
  (match y.o.dst with
   |none=>true|some t=> !(NI x.o t)&&(bif x.lk.testBit t then(bif Nat.blt y.i x.i then x.pre.testBit y.i else y.pre.testBit x.i)else true))&&
  (bif x.wr&&y.wr&&Nat.blt y.i x.i then x.pre.testBit y.i else true)
def stat (all:An)(pres:Ah):Bool:=
 Nat.beq pres.length all.length&&(infs all pres).all (s1 pres)&&(infs all pres).all (fun x=>(infs all pres).all (s2 x))
def isW (e:Ent):Bool:=Nat.beq (i7 e.o.op) 3
def Y1 (es:List Ent)(e:Ent)(k:Nat):Bool:=
 es.all fun y=>bif isW y then(bif Nat.blt y.i k then !(y.pre.testBit e.i)else !(e.pre.testBit y.i))else true
def own (es:List Ent)(e:Ent)(k:Nat):Bool:=
 es.all fun y=>bif isW y then(Nat.blt y.i k==Nat.blt y.i e.i)else true
def nL (P:Aw)(es:List Ent)(e:Ent)(k:Nat)(S:Hp):Bool:=
 bif own es e k then true else bif Y1 es e k then
  (match xrd P e.tm S e.o.op with
   |some v=>veq 1000 v e.r|none=>false)
 else true
def dyn (P:Aw)(S0:Hp)(es:List Ent):Bool:=
 es.all fun e=>bif e.wt&&Nat.beq (i7 e.o.op) 1 then nL P es e 0 S0&&es.all (fun x=>bif isW x then nL P es e (x.i+1) x.S2 else true)else true
def mN (P:Aw):Z6:=fun call nt all tm hp=>
 bif stat all (dQ all [])then
  match xgo P call nt all hp.nx (all.zip (dQ all [])) 0 tm ⟨hp.m,hp.nx+all.length⟩ 0 []with
  |some out=>bif dyn P ⟨hp.m,hp.nx+all.length⟩ out.es then some (out.tm,takes hp.nx (Bh out.I) out.es out.S)else none|none=>none
 else none
theorem rY {α:Type}(f:α->Nat->Bool)(g:Nat->α->Nat)(hg:∀s x j,(g s x).testBit j=true↔(s.testBit j=true\/f x j=true)):∀(l:List α) (s:Nat) (j:Nat),(l.foldl g s).testBit j=true↔(s.testBit j=true\/ ∃x∈l,f x j=true)
 | [],s,j=>by simp|x::l,s,j=>by rw[List.foldl_cons,rY f g hg l (g s x) j,hg];grind
theorem Jg {pres:Ah}{o:Oper}{j:Nat}(h:(xpre pres o).testBit j=true):∃e∈o.after.toList,Region.binds .any e=true/\(e.on=j\/(pres.getD e.on 0).testBit j=true):=by unfold xpre at h;rw[rY (fun(e:Edge) j=>Region.binds .any e&&(decide (e.on=j)|| (pres.getD e.on 0).testBit j))]at h;grind;grind
theorem sP {all:An}{o:Oper}{t:Nat}:(sO all o).testBit t=true↔((∃g b p,o.guard=some (g,b)/\all[g]? =some p/\p.dst=some t)\/Operand.tmp t∈o.op.operands.toList):=by unfold sO;rw[rY (fun(x:Az) j=>match x with| .tmp t=>decide (t=j)|_=>false)];grind;intro s x j;cases x<;>simp[KG,Nat.testBit_or,Nat.testBit_two_pow]
def lst (L:Array Bool)(j:Nat):Prop:=L.getD j false=true
section
variable {P :Aw}{B:BS}{w0:Bc}{call:j8}{nt:Nat}{ops:Am}{pres:Ah}{nx0:Nat}{l:List Ent}{tm0 tmN:Ao}{S0 SN:Hp}{IN:Nat}
structure Fix (P:Aw)(call:j8)(nt:Nat)(ops:Am)(pres:Ah)(nx0:Nat)(l:List Ent)(tm0 tmN:Ao)(S0 SN:Hp)(IN:Nat):Prop where
 stat:stat ops.toList pres=true
 dyn:dyn P S0 l.reverse=true
 map:l.map (fun e=>(e.o,e.pre))=ops.toList.zip pres
 chain:L5 P call nt ops.toList nx0 tmN SN IN [] l tm0 S0 0
variable (F :Fix P call nt ops pres nx0 l tm0 tmN S0 SN IN)
include F
theorem Fix.plen :pres.length=ops.size:=by have:=F.stat;simp only[Xe.stat,Pk]at this;simp_all
def Fix.len :l.length=ops.size:=by have:=congrArg List.length F.map;simpa [F.plen]using this
variable {j:Nat}
theorem Fix.ent {o:Oper}(h:ops[j]? =some o):∃e,l[j]? =some e/\e.o=o:=by
 have hj:=(Pz.1 h).1;have b:j<l.length:=by rw[F.len];exact hj
 refine⟨l[j],by grind,?_⟩;have:=congrArg (fun x=>x[j]?) F.map;grind
variable {e:Ent}
theorem Fix.at_ (h:l[j]? =some e):ops[j]? =some e.o/\e.pre=pres.getD j 0/\e.i=j:=by have hm:=congrArg (fun x=>x[j]?) F.map;simp only[Qm,h,Qh]at hm;have:=List.getElem?_zip_eq_some.1 hm.symm;refine⟨by grind,by grind,?_⟩;have:=(F.chain.get h).1;grind
theorem Fix.inf (h:l[j]? =some e):(⟨e.o,e.pre,j,sO ops.toList e.o,Nat.beq (i7 e.o.op) 3⟩:Inf)∈infs ops.toList pres:=by have hm:=congrArg (fun x=>x[j]?) F.map;refine QQ.2 ⟨((e.o,e.pre),j),?_,rfl⟩;grind
theorem Fix.p1 (h:l[j]? =some e):(∀k,e.pre.testBit k=true-> ∃b∈e.o.after.toList,Region.binds .any b=true/\(b.on=k\/(pres.getD b.on 0).testBit k=true))/\ ∀b∈e.o.after.toList,Region.binds .any b=true->b.on<j:=by have hs:=F.stat;simp only[Xe.stat,Pk,PO]at hs;have:=hs.1.2 _ (F.inf h);simp only[s1,Pk,PO,QL,Qi]at this;have he:=Pq this.1;refine⟨fun k hk=>Jg (by grind),fun b c hb=>?_⟩;rcases this.2 b c with h1|h1;grind;simp_all
variable {i:Nat}
theorem Fix.p2 {e':Ent}(hi:l[i]? =some e)(hj:l[j]? =some e')(b:i≠j):(∀t,e'.o.dst=some t->e.o.dst≠some t)/\(∀t,e'.o.dst=some t->(sO ops.toList e.o).testBit t=true->(j<i->e.pre.testBit j=true)/\(i<j->e'.pre.testBit i=true))/\(i7 e.o.op=3->i7 e'.o.op=3->j<i->e.pre.testBit j=true):=by
 have hs:=F.stat;simp only[Xe.stat,Pk,PO]at hs;have:=hs.2 _ (F.inf hi) _ (F.inf hj);simp only[s2]at this;rw[y7 b,PC,Pk]at this;obtain⟨h1,h2⟩:=this;refine⟨fun t ht c=>?_,fun t ht hl=>?_,fun k1 k2 hlt=>?_⟩;simp only[ht,Pk,Qi]at h1;have:=h1.1;simp only[NI,c]at this;simp_all
 ·simp at h1;constructor;intro hlt;simp_all
  ·intro hlt;have:Nat.blt j i=false:=by cases hb:Nat.blt j i;rfl;simp_all;omega
   grind
 rw[w9 k1,w9 k2,show Nat.blt j i=true from Ps hlt]at h2;grind
omit F
structure Inv (B:BS)(w0:Bc)(P:Aw)(call:j8)(nt:Nat)(ops:Am)(nx0:Nat)(l:List Ent)(tm0 tmN:Ao)(S0 SN:Hp)(IN:Nat)(σ0:Sg)(D:List Deferred)(L:Array Bool)(a:Act)(w:Bc)(σ:Sg)(k:Nat)(S:Hp)(I:Nat):Prop where
 size:L.size=ops.size
 down:∀j e,l[j]? =some e->lst L j-> ∀m,e.pre.testBit m=true->lst L m
 defers:a.defers=D
 tsz:a.tmps.size=nt
 tin:∀(j:Nat) e t,l[j]? =some e->lst L j->e.o.dst=some t->VR σ e.r (a.tmps.getD t undef)
 tout:∀t,(∀(j:Nat) e,l[j]? =some e->lst L j->e.o.dst≠some t)->VR σ ((tm0.get t).getD undef) (a.tmps.getD t undef)
 cut:∃tmk,L5 P call nt ops.toList nx0 tmN SN IN (l.take k).reverse (l.drop k) tmk S I
 norm:(k=0/\S=S0)\/ ∃e,0<k/\l[k-1]? =some e/\i7 e.o.op=3/\S=e.S2
 wr:∀(j:Nat) e,l[j]? =some e->i7 e.o.op=3->(lst L j↔j<k)
 hr:HR B w0 σ S w
 gr:Sg.gr nx0 S.nx σ0 σ
 room:nx0+ops.size<=S.nx
 none:∀(j:Nat) e n,l[j]? =some e->e.nw=some n-> ¬lst L j->σ (nx0+j)=none
 ext:∀(j:Nat) e n,l[j]? =some e->e.nw=some n->lst L j->I.testBit j=false-> ∃b,Ext B σ S w (nx0+j) n b
 apart:∀(j j':Nat) e e' n n' b b',l[j]? =some e->l[j']? =some e'->e.nw=some n->e'.nw=some n'->j≠j'->lst L j->lst L j'->I.testBit j=false->I.testBit j'=false->
  Ext B σ S w (nx0+j) n b->Ext B σ S w (nx0+j') n' b'->b≠b'
variable {L:Array Bool}
theorem C5 (hi:i<L.size):lst (L.setIfInBounds i true) j↔(lst L j\/j=i):=by unfold lst;by_cases h:j=i;simp_all;rw[getD_set_ne false (Ne.symm h)];simp[h]
theorem DL (h:L.getD i true=false):i<L.size/\ ¬lst L i:=by
 have hi:i<L.size:=by grind
 refine⟨hi,fun hl=>?_⟩;unfold lst at hl;grind
theorem wW {k:Nat}{tmk:Ao}{S:Hp}{I:Nat}(hc:L5 P call nt ops.toList nx0 tmN SN IN (l.take k).reverse (l.drop k) tmk S I)(he:l[i]? =some e)(hk:k<=i)(hn:∀(j:Nat) e',l[j]? =some e'->k<=j->j<i->i7 e'.o.op≠3):e.S=S/\e.I=I:=by
 have h1:(l.drop k)[i-k]? =some e:=by grind
 refine(hc.upTo h1).still fun e' hm=>?_;obtain⟨m,b⟩:=Qr.1 hm;grind
include F
theorem Fix.seen {σ0:Sg}{D:List Deferred}{a:Act}{w:Bc}{σ:Sg}{k:Nat}{S:Hp}{I:Nat}(V:Inv B w0 P call nt ops nx0 l tm0 tmN S0 SN IN σ0 D L a w σ k S I)(he:l[i]? =some e)(d:∀m,e.pre.testBit m=true->lst L m)(hi:¬lst L i){t:Nat}(ht:(sO ops.toList e.o).testBit t=true):VR σ ((e.tm.get t).getD undef) (a.tmps.getD t undef):=by
 have hp:=F.chain.upTo he;by_cases hx:∃(j:Nat) (e':Ent),j<i/\l[j]? =some e'/\e'.o.dst=some t;obtain⟨j,e',hlt,hj,b⟩:=hx;have c:=d j (((F.p2 he hj (by omega)).2.1 t b ht).1 hlt);have:=hp.tm_some (by rw[PS,PG hlt];exact hj) b (fun m r hm n f=>by rw[PS]at hm;split at hm;exact(F.p2 hm hj n).1 t b f;exact absurd hm (by simp));rw[this];exact V.tin j e' t hj c b
 ·have p:∀e'∈l.take i,e'.o.dst≠some t:=by intro e' hm b;obtain⟨m,q⟩:=Qr.1 hm;grind
  rw[hp.tm_none p];refine V.tout t fun j e' hj c b=>?_;by_cases h:j=i;grind;rcases Nat.lt_or_ge j i with hlt|hge;grind;exact hi (V.down j e' hj c i (((F.p2 he hj (Ne.symm h)).2.1 t b ht).2 (by omega)))
end
theorem Et {σ:Sg}{tm:Ao}{tmps:Al}(ops:Am)(o:Oper)(h:∀g b p d,o.guard=some (g,b)->ops.toList[g]? =some p->p.dst=some d->VR σ ((tm.get d).getD undef) (tmps.getD d undef)):Region.wanted o (yielded ops tmps)=y5 ops.toList tm o:=by
 unfold Region.wanted y5;cases hg:o.guard with
 |none=>rfl|some f=>
  obtain⟨j,b⟩:=f;have hy:yielded ops tmps j=dH ops.toList tm j:=by
   unfold yielded dH;rw[Array.getElem?_toList];cases hj:ops[j]? with
   |none=>rfl|some p=>
    simp;cases m:p.dst with
    |none=>rfl|some d=>
     simp;have:=h j b p d hg (by grind) m;by_cases hlt:d<tmps.size
     ·have e:tmps[d]? =some tmps[d]:=by grind
      have c:tmps.getD d undef=tmps[d]:=by simp_all
      rw[c]at this;rw[e];cases hg:tm.get d with
      |none=>rw[hg,Option.getD_none]at this;generalize tmps[d]=x at this;cases this<;>grind
      |some v=>rw[hg,Qe]at this;generalize tmps[d]=x at this;cases this<;>rfl
     ·have e:=Array.getElem?_eq_none (QM hlt);have c:tmps.getD d undef=undef:=by grind
      rw[c]at this;rw[e];cases hg:tm.get d with
      |none=>rfl|some v=>rw[hg,Qe]at this;cases this<;>grind
  grind
section
variable {P :Aw}{B:BS}{w0:Bc}{call:j8}{nt:Nat}{ops:Am}{pres:Ah}{nx0:Nat}{l:List Ent}{tm0 tmN:Ao}{S0 SN:Hp}{IN:Nat}
variable (F :Fix P call nt ops pres nx0 l tm0 tmN S0 SN IN)
include F
variable {i:Nat}
theorem Fix.before {j:Nat}{e:Ent}(hi:i<=l.length)(h:((l.take i).reverse)[j]? =some e):j<i/\l[i-1-j]? =some e/\e.i=i-1-j:=by
 have b:(l.take i).length=i:=by grind
 have hj:j<i:=by grind
 rw[List.getElem?_reverse (by omega),b,PS,PG (by omega)]at h;exact⟨hj,h,(F.at_ h).2.2⟩
variable {σ σ0:Sg}{D:List Deferred}{L:Array Bool}{a:Act}{w:Bc}{I k:Nat}{S:Hp}
theorem Fix.takes (V:Inv B w0 P call nt ops nx0 l tm0 tmN S0 SN IN σ0 D L a w σ k S I)(hi:i<=l.length)(m:Nat->Bool)(hm:∀j,j<i->m j=true->lst L j/\I.testBit j=false):HR B w0 σ (Xe.takes nx0 m (l.take i).reverse S) w/\(Xe.takes nx0 m (l.take i).reverse S).nx=S.nx/\ ∀(j:Nat) e n b,l[j]? =some e->e.nw=some n->lst L j->I.testBit j=false->(j<i->m j=false)->Ext B σ S w (nx0+j) n b->Ext B σ (Xe.takes nx0 m (l.take i).reverse S) w (nx0+j) n b:=by
 have H:=LQ (l.take i).reverse V.hr
  (fun j e n hj hn f=>by obtain⟨h1,h2,h3⟩:=F.before hi hj;obtain⟨h4,u⟩:=hm _ (by omega:i-1-j<i) (h3▸f);rw[h3];exact V.ext _ e n h2 hn h4 u)
  (fun j j' e e' n n' b b' hj d J hn h f c A C=>by obtain⟨h1,h2,h3⟩:=F.before hi hj;obtain⟨E,q,o⟩:=F.before hi d;obtain⟨h4,u⟩:=hm _ (by omega:i-1-j<i) (h3▸f);obtain⟨r,t⟩:=hm _ (by omega:i-1-j'<i) (o▸c);rw[h3]at A;rw[o]at C;exact V.apart _ _ e e' n n' b b' h2 q hn h (by omega) h4 r u t A C)
 refine⟨H.1,H.2.1,fun j e n b hj hn z v G hx=>H.2.2 _ n b hx fun j' e' n' b' d h c p=>?_⟩;obtain⟨E,q,o⟩:=F.before hi d;obtain⟨r,t⟩:=hm _ (by omega:i-1-j'<i) (o▸c);rw[o]at p;refine V.apart _ _ e' e n' n b' b q hj h hn ?_ r z t v p hx;grind
theorem Fix.read (V:Inv B w0 P call nt ops nx0 l tm0 tmN S0 SN IN σ0 D L a w σ k S I){e:Ent}(he:l[i]? =some e)(t:∀m,e.pre.testBit m=true->lst L m)(hi:¬lst L i)(Q:e.wt=true)(E:i7 e.o.op=1):xrd P e.tm S e.o.op=some e.r:=by
 have p:e.i=i:=(F.at_ he).2.2;have b:∀ {j:Nat} {y:Ent},l[j]? =some y->y∈l.reverse:=fun h=>List.mem_reverse.2 (Pv h);have q:∀ {y:Ent},y∈l.reverse-> ∃j,l[j]? =some y/\y.i=j:=fun h=>by obtain⟨j,hj⟩:=Qr.1 (List.mem_reverse.1 h);exact⟨j,hj,(F.at_ hj).2.2⟩
 have f:Y1 l.reverse e k=true:=by
  unfold Y1;rw[PO];intro y hy;obtain⟨j,hj,K⟩:=q hy;cases d:isW y with
  |false=>rfl|true=>
   have h3:i7 y.o.op=3:=Pq d;rw[K,p];by_cases hlt:j<k
   ·rw[show Nat.blt j k=true from Ps hlt,PB];have J:=(V.wr j y hj h3).2 hlt;cases hb:y.pre.testBit i with
    |false=>rfl|true=>exact absurd (V.down j y hj J i hb) hi
   ·have hb:Nat.blt j k=false:=by cases hb:Nat.blt j k;rfl;simp_all;omega
    rw[hb,PC];cases A:e.pre.testBit j with
    |false=>rfl|true=>exact absurd ((V.wr j y hj h3).1 (t j A)) hlt
 obtain⟨tm',S',I',hs,N⟩:=(F.chain.get he).2;have hr:=hs.k1 Q E;have z:nL P l.reverse e k S=true->xrd P e.tm S e.o.op=some e.r:=by
  intro hl;unfold nL at hl;cases u:own l.reverse e k with
  |true=>
   have O:∀(j:Nat) y,l[j]? =some y->i7 y.o.op=3->(j<k↔j<i):=by intro j y hj h3;unfold own at u;rw[PO]at u;have:=u y (b hj);have d:isW y=true:=w9 h3;rw[d,PB,(F.at_ hj).2.2,p]at this;constructor;intro hlt;rw[show Nat.blt j k=true from Ps hlt]at this;simp_all;intro hlt;rw[show Nat.blt j i=true from Ps hlt]at this;simp_all
   have G:k<=i:=by rcases V.norm with⟨h0,_⟩| ⟨y,h0,hy,h3,_⟩;omega;grind
   obtain⟨tmk,n⟩:=V.cut;have M:=(wW n he G (by grind)).1;grind
  |false=>rw[u,PC,f,PB]at hl;split at hl;rename_i v hv;rw[hv,LX _ _ _ hl];cases hl
 have C:=F.dyn;unfold Xe.dyn at C;rw[PO]at C;have h0:=C e (b he);have c:(e.wt&&Nat.beq (i7 e.o.op) 1)=true:=by simp_all
 rw[c,PB,Pk,PO]at h0;rcases V.norm with⟨hk,M⟩| ⟨y,hk,hy,h3,M⟩;grind;have:=h0.2 y (b hy);have d:isW y=true:=w9 h3;rw[d,PB,(F.at_ hy).2.2,show k-1+1=k by omega]at this;grind
set_option maxHeartbeats 1000000 in
theorem Fix.step (ad:O9 P call)(V:Inv B w0 P call nt ops nx0 l tm0 tmN S0 SN IN σ0 D L a w σ k S I)(hr:i∈Region.ready .any ops L)(Q:Exit->Act->Bc->Prop)(r:Ai):wpOpIn (RF r) 0 P ops Q i (fun a' w'=>∃σ' k' S' I',Inv B w0 P call nt ops nx0 l tm0 tmN S0 SN IN σ0 D (L.setIfInBounds i true) a' w' σ' k' S' I') a w:=by
 obtain⟨cj,o,ho,bb⟩:=mem_ready.1 hr;obtain⟨J,an⟩:=DL cj;obtain⟨e,he,G⟩:=F.ent ho;have ca:e.i=i:=(F.at_ he).2.2;have ax:i<l.length:=(Po.1 he).1;have aa:∀m,e.pre.testBit m=true->lst L m:=by
  intro m hm;obtain⟨ed,bh,hb,h⟩:=(F.p1 he).1 m hm;have cg:lst L ed.on:=bb ed (by rw[<-G];simpa using bh) hb;rcases h with h|h;grind
  ·have hlt:=(F.p1 he).2 ed bh hb;have bm:ed.on<l.length:=by omega
   obtain⟨e',bg⟩:∃e',l[ed.on]? =some e':=⟨l[ed.on],by simp[bm]⟩
   exact V.down ed.on e' bg cg m (by rw[(F.at_ bg).2.1];exact h)
 obtain⟨tm',S',I',hs,bz⟩:=(F.chain.get he).2;simp only[QX]at hs bz;have ar:∃tmk,L5 P call nt ops.toList nx0 tmN SN IN (l.take (i+1)).reverse (l.drop (i+1)) tmk S' I':=by
  refine⟨tm',?_⟩;have:e::(l.take i).reverse=(l.take (i+1)).reverse:=by rw[List.take_succ_eq_append_getElem ax,List.reverse_append];grind
  grind
 have ao:∀t,(sO ops.toList o).testBit t=true->VR σ ((e.tm.get t).getD undef) (a.tmps.getD t undef):=fun t ht=>F.seen V he aa an (by rw[G];exact ht);have ap:∀x∈o.op.operands,∀v,i5 e.tm x=some v->VR σ v (a.eval x):=by
  intro x hx v hv;cases x with
  |tmp t=>simp only[i5,Pj]at hv;subst hv;exact ao t (sP.2 (.inr (by simpa using hx)))|const c=>
   simp only[i5]at hv;cases hc:cst c with
   |false=>grind|true=>simp[hc]at hv;subst hv;exact bP σ hc
  |global g=>simp[i5]at hv|func f=>simp only[i5,Pj]at hv;subst hv;exact .func _ _ _ _ _ rfl (fun i x y h _=>by simp at h) rfl (fun i x y h _=>by simp at h)
 have ba:Region.wanted o (yielded ops a.tmps)=e.wt:=by rw[hs.wt,G];exact Et ops o fun g bu p d hg hp hd=>ao d (sP.2 (.inl ⟨g,bu,p,hg,hp,hd⟩))
 have be:∀(j:Nat) e' t,l[j]? =some e'->j≠i->e'.o.dst=some t->o.dst≠some t:=fun j e' t hj Z ht=>by rw[<-G];exact(F.p2 he hj (Ne.symm Z)).1 t ht
 have build:∀(u:Av) (σ':Sg) (w':Bc) (k':Nat) (S2:Hp) (I2:Nat),Sg.le σ σ'->VR σ' e.r u->
   (∃tmk,L5 P call nt ops.toList nx0 tmN SN IN (l.take k').reverse (l.drop k') tmk S2 I2)->
   ((k'=0/\S2=S0)\/ ∃e,0<k'/\l[k'-1]? =some e/\i7 e.o.op=3/\S2=e.S2)->
   (∀(j:Nat) e,l[j]? =some e->i7 e.o.op=3->(lst (L.setIfInBounds i true) j↔j<k'))->
   HR B w0 σ' S2 w'->Sg.gr nx0 S2.nx σ0 σ'->nx0+ops.size<=S2.nx->
   (∀(j:Nat) e n,l[j]? =some e->e.nw=some n-> ¬lst (L.setIfInBounds i true) j->σ' (nx0+j)=none)->
   (∀(j:Nat) e n,l[j]? =some e->e.nw=some n->lst (L.setIfInBounds i true) j->I2.testBit j=false-> ∃b,Ext B σ' S2 w' (nx0+j) n b)->
   (∀(j j':Nat) e e' n n' b b',l[j]? =some e->l[j']? =some e'->e.nw=some n->e'.nw=some n'->j≠j'->lst (L.setIfInBounds i true) j->lst (L.setIfInBounds i true) j'->I2.testBit j=false->I2.testBit j'=false->
    Ext B σ' S2 w' (nx0+j) n b->Ext B σ' S2 w' (nx0+j') n' b'->b≠b')->
   Inv B w0 P call nt ops nx0 l tm0 tmN S0 SN IN σ0 D (L.setIfInBounds i true) (a.put o.dst u) w' σ' k' S2 I2:=by
  intro u σ' w' k' S2 I2 ai hv h1 h2 h3 h4 h5 h6 h7 h8 h9;have au:∀t,o.dst≠some t->(a.put o.dst u).tmps.getD t undef=a.tmps.getD t undef:=by
   intro t ht;cases hd:o.dst with
   |none=>rfl|some d=>have Z:d≠t:=fun h=>ht (by rw[hd,h]);simp[Act.put,Array.getElem?_setIfInBounds_ne Z]
  have ay:∀t,o.dst=some t->(a.put o.dst u).tmps.getD t undef=u:=by
   intro t ht;have hb:F7 nt o.dst=true:=by rw[<-G];exact hs.dst
   rw[ht]at hb⊢;have hlt:t<a.tmps.size:=by rw[V.tsz];exact Pp hb
   simp[Act.put,hlt]
  refine⟨by simpa using V.size,?_,by rw[jG];exact V.defers,?_,?_,?_,h1,h2,h3,h4,h5,h6,h7,h8,h9⟩;intro j e' hj A m hm;rw[C5 J]at A⊢;rcases A with A|rfl;exact .inl (V.down j e' hj A m hm);have:e'=e:=PK (hj.symm.trans he);subst this;exact .inl (aa m hm);cases hd:o.dst<;>simp[Act.put,V.tsz];intro j e' t hj A ht;rw[C5 J]at A;by_cases E:j=i;subst E;have:e'=e:=PK (hj.symm.trans he);subst this;rw[ay t (by rw[<-G];exact ht)];exact hv;rw[au t (be j e' t hj E ht)];exact(V.tin j e' t hj (A.resolve_right E) ht).mono ai
  ·intro t bl;have cf:o.dst≠some t:=by rw[<-G];exact bl i e he ((C5 J).2 (.inr rfl))
   rw[au t cf];exact(V.tout t fun j e' hj A=>bl j e' hj ((C5 J).2 (.inl A))).mono ai
 have al:∀(u:Av) (σ':Sg) (w':Bc),i7 o.op≠3->(e.nw=none)->Sg.gr S.nx S.nx σ σ'->VR σ' e.r u->HR (rest B σ S w) w σ' S w'->
   ∃σ' k' S' I',Inv B w0 P call nt ops nx0 l tm0 tmN S0 SN IN σ0 D (L.setIfInBounds i true) (a.put o.dst u) w' σ' k' S' I':=by
  intro u σ' w' hk R O hv bi;refine⟨σ',k,S,I,build u σ' w' k S I O.le hv V.cut V.norm (fun j e' hj h3=>?_) (V.hr.back bi) (RV V.gr O) V.room (fun j e' n hj hn A=>?_) (fun j e' n hj hn A hI=>?_) (fun j j' e1 e2 n1 n2 b1 b2 hj T M N Z X Y U W x1 x2=>?_)⟩;rw[C5 J,<-V.wr j e' hj h3];constructor;rintro (h|rfl);exact h;have:e'=e:=PK (hj.symm.trans he);subst this;exact absurd h3 (by rw[G];exact hk);exact .inl;have bk:¬lst L j:=fun h=>A ((C5 J).2 (.inl h));have ce:j<l.length:=(Po.1 hj).1;rw[O.low _ (by have:=V.room;have:=F.len;omega)];exact V.none j e' n hj hn bk
  ·have E:j≠i:=by rintro rfl;rw[PK (hj.symm.trans he),R]at hn;cases hn
   rw[C5 J]at A;obtain⟨b,hb⟩:=V.ext j e' n hj hn (A.resolve_right E) hI;exact⟨b,hb.step bi O.le⟩
  ·have E:j≠i:=by rintro rfl;rw[PK (hj.symm.trans he),R]at M;cases M
   have K:j'≠i:=by rintro rfl;rw[PK (T.symm.trans he),R]at N;cases N
   rw[C5 J]at X Y;obtain⟨c1,y1⟩:=V.ext j e1 n1 hj M (X.resolve_right E) U;obtain⟨c2,y2⟩:=V.ext j' e2 n2 T N (Y.resolve_right K) W;have ab:∀ {id:Nat} {n:Nw} {b c:Nat},Ext B σ S w id n c->Ext B σ' S w' id n b->b=c:=by intro id n b c hx hy;obtain⟨p,_,p1,p2,_⟩:=hx;obtain⟨q,_,q1,q2,_⟩:=hy;have:=(O.le _ _ p1).symm.trans q1;have:p=q:=PK this;rw[<-p2,<-q2,this]
   rw[ab y1 x1,ab y2 x2];exact V.apart j j' e1 e2 n1 n2 c1 c2 hj T M N Z (X.resolve_right E) (Y.resolve_right K) U W y1 y2
 have bt:i7 o.op=3->e.S=S/\e.I=I/\k<=i/\ ∀(j:Nat) e',l[j]? =some e'->i7 e'.o.op=3->(lst (L.setIfInBounds i true) j↔j<i+1):=by
  intro h3;have ac:i7 e.o.op=3:=by rw[G];exact h3
  have aq:k<=i:=by rcases Nat.lt_or_ge i k with h|h;exact absurd ((V.wr i e he ac).2 h) an;exact h
  obtain⟨tmk,bc⟩:=V.cut;have hlt:∀(j:Nat) e',l[j]? =some e'->i7 e'.o.op=3->j<i->lst L j:=fun j e' hj k3 hlt=>aa j ((F.p2 he hj (by omega)).2.2 ac k3 hlt);have bq:=wW bc he aq (fun j e' hj h1 h2 k3=>by have:=(V.wr j e' hj k3).1 (hlt j e' hj k3 h2);omega);refine⟨bq.1,bq.2,aq,fun j e' hj k3=>?_⟩;rw[C5 J];constructor;rintro (h|rfl);rcases Nat.lt_or_ge i j with h'|h';exact absurd (V.down j e' hj h i ((F.p2 hj he (by omega)).2.2 k3 ac h')) an;omega;omega;intro h;by_cases E:j=i;exact .inr E;exact .inl (hlt j e' hj k3 (by omega))
 unfold wpOpIn;simp only[ho];rw[ba];cases ak:e.wt with
 |false=>
  rw[PE (by simp)];refine⟨fun _ _=>trivial,?_⟩;obtain⟨bn,R⟩:=hs.un ak;by_cases h3:i7 o.op=3
  ·obtain⟨e1,e2,aq,az⟩:=bt h3;obtain⟨l1,l2⟩:=hs.low (.inl ak);have ac:i7 e.o.op=3:=by rw[G];exact h3
   refine⟨σ,i+1,S',I',build undef σ w (i+1) S' I' (Sg.le_refl σ) (by rw[bn];exact Sm σ) ar (.inr ⟨e,by omega,he,ac,hs.S2.symm⟩) az
    (by rw[l1,e1];exact V.hr) (by rw[l1,e1];exact V.gr) (by rw[l1,e1];exact V.room) (fun j e' n hj hn A=>?_) (fun j e' n hj hn A hI=>?_) (fun j j' f1 f2 n1 n2 b1 b2 hj T M N Z X Y U W x1 x2=>?_)⟩
   exact V.none j e' n hj hn (fun h=>A ((C5 J).2 (.inl h)))
   ·have E:j≠i:=by rintro rfl;rw[PK (hj.symm.trans he),R]at hn;cases hn
    rw[C5 J]at A;rw[l1,e1];rw[l2,e2]at hI;exact V.ext j e' n hj hn (A.resolve_right E) hI
   ·have E:j≠i:=by rintro rfl;rw[PK (hj.symm.trans he),R]at M;cases M
    have K:j'≠i:=by rintro rfl;rw[PK (T.symm.trans he),R]at N;cases N
    rw[C5 J]at X Y;rw[l1,e1]at x1 x2;rw[l2,e2]at U W;exact V.apart j j' f1 f2 n1 n2 b1 b2 hj T M N Z (X.resolve_right E) (Y.resolve_right K) U W x1 x2
  exact al undef σ w h3 R (RU _ σ) (by rw[bn];exact Sm σ) V.hr.max
 |true=>
  rw[PG rfl];by_cases h0:i7 o.op=0;have hx:=hs.k0 ak (by rw[G];exact h0) S;rw[G]at hx;exact gX ad hx ap V.hr.max _ Q (fun σ' u w' O hv aj=>al u σ' w' (by omega) (hs.nw (by rw[G];omega)) O hv aj) r;by_cases h1:i7 o.op=1;have hx:=Ng (call:=call) (by rw[G];exact h1) (F.read V he aa an ak (by rw[G];exact h1));rw[G]at hx;exact gX ad hx ap V.hr.max _ Q (fun σ' u w' O hv aj=>al u σ' w' (by omega) (hs.nw (by rw[G];omega)) O hv aj) r;by_cases h2:i7 o.op=2
  ·obtain⟨n,hx,ci,R⟩:=hs.k2 ak (by rw[G];exact h2);rw [G] at hx;obtain ⟨sm,cb,bj,ob,siz,z,bw,bp⟩:=yW (σ:=σ) hx ap;have aw : σ (nx0+i)=none:=V.none i e n he R an;have hlt : nx0+i < S.nx:=by have:=V.room; have:=F.len; omega
   obtain⟨X,Y⟩:=V.hr.lay aw hlt n (p:=⟨w.heap.size,0,siz,z⟩) rfl (bw _);have ai:=RW (σ:=σ) (i:=nx0+i) ⟨w.heap.size,0,siz,z⟩ aw;refine j2 (fun c hc=>by rw[hc]at h2;cases h2) ?_;unfold Oper.wp;rw[cb,PN,bp w,PJ,PU,Rg];refine⟨_,k,S,I,build _ _ _ k S I ai ?_ V.cut V.norm (fun j e' hj h3=>?_) X ⟨Sg.le_trans V.gr.le ai,fun j hj=>(RQ _ _ _ (by omega)).trans (V.gr.low j hj),V.gr.nx⟩ V.room (fun j e' n' hj hn A=>?_) (fun j e' n' hj hn A hI=>?_)
    (fun j j' f1 f2 n1 n2 b1 b2 hj T M N Z ae ah U W x1 x2=>?_)⟩
   rw[ci,ca];exact Nw.val_VR bj _ _ _ _;rw[C5 J,<-V.wr j e' hj h3];constructor;rintro (h|rfl);exact h;have:e'=e:=PK (hj.symm.trans he);subst this;rw[G]at h3;omega;exact .inl
   ·have E:j≠i:=by rintro rfl;exact A ((C5 J).2 (.inr rfl))
    rw[RQ _ _ _ (by omega)];exact V.none j e' n' hj hn (fun h=>A ((C5 J).2 (.inl h)))
   by_cases E:j=i;subst E;have:e'=e:=PK (hj.symm.trans he);subst this;have:n'=n:=PK (hn.symm.trans R);subst this;exact⟨_,Y⟩;rw[C5 J]at A;obtain⟨b,hb⟩:=V.ext j e' n' hj hn (A.resolve_right E) hI;exact⟨b,hb.lay V.hr aw _ _⟩
   ·
    have old:∀(j:Nat) (f:Ent) (n':Nw) (b:Nat),l[j]? =some f->f.nw=some n'->j≠i->lst (L.setIfInBounds i true) j->I.testBit j=false->
      Ext B (σ.ext (nx0+i) ⟨w.heap.size,0,siz,z⟩) S (w.alloc ob) (nx0+j) n' b->Ext B σ S w (nx0+j) n' b/\b<w.heap.size:=by
     intro j f n' b hj hn E A hI hx;rw[C5 J]at A;obtain⟨c,hc⟩:=V.ext j f n' hj hn (A.resolve_right E) hI;have bx:=hc;obtain⟨p,C,p1,p2,p5,_⟩:=hc;obtain⟨q,_,q1,q2,_⟩:=hx;have:=(ai _ _ p1).symm.trans q1;have:p=q:=PK this;have bv:b=c:=by rw[<-p2,<-q2,this]
     subst bv;exact⟨bx,(Pz.1 p5).1⟩
    have new:∀(n':Nw) (b:Nat),Ext B (σ.ext (nx0+i) ⟨w.heap.size,0,siz,z⟩) S (w.alloc ob) (nx0+i) n' b->b=w.heap.size:=by intro n' b hx;obtain⟨q,_,q1,q2,_⟩:=hx;rw[RT]at q1;rw[<-q2,<-PK q1]
    by_cases E:j=i;subst E;have cd:j'≠j:=Ne.symm Z;have:=(old j' f2 n2 b2 T N cd ah W x2).2;rw[new n1 b1 x1];omega;by_cases K:j'=i;subst K;have:=(old j f1 n1 b1 hj M E ae U x1).2;rw[new n2 b2 x2];omega;have o1:=(old j f1 n1 b1 hj M E ae U x1).1;have o2:=(old j' f2 n2 b2 T N K ah W x2).1;rw[C5 J]at ae ah;exact V.apart j j' f1 f2 n1 n2 b1 b2 hj T M N Z (ae.resolve_right E) (ah.resolve_right K) U W o1 o2
  ·
   have h3:i7 o.op=3:=by have:=tJ o.op;omega
   have ac:i7 e.o.op=3:=by rw[G];exact h3
   obtain⟨e1,e2,aq,az⟩:=bt h3;obtain⟨hx,av⟩:=hs.k3 ak (by omega);rw[G,e1,e2]at hx;rw[e2]at av;obtain⟨T1,T2,T3⟩:=F.takes V (i:=i) (by omega) (wB e.pre I) (fun j hj hm=>by simp only[wB,Pk,Qi]at hm;exact⟨aa j hm.1,hm.2⟩);refine gX ad hx ap T1.max _ Q (fun σ' u w' O hv aj=>?_) r;rw[T2]at O;have keep:∀(j:Nat) (f:Ent) (n:Nw),l[j]? =some f->f.nw=some n->lst L j->I'.testBit j=false-> ∃b,Ext B σ S w (nx0+j) n b/\Ext B σ' S' w' (nx0+j) n b:=by intro j f n hj hn A hI;rw[av,Nat.testBit_or,Rq]at hI;obtain⟨b,hb⟩:=V.ext j f n hj hn A hI.1;exact⟨b,hb,(T3 j f n b hj hn A hI.1 (fun _=>by simp[wB,hI.2]) hb).step aj O.le⟩
   have R:e.nw=none:=hs.nw (by omega);refine⟨σ',i+1,S',I',build u σ' w' (i+1) S' I' O.le hv ar (.inr ⟨e,by omega,he,ac,hs.S2.symm⟩) az (T1.back aj) (RV V.gr O) (by have:=V.room;have:=O.nx;omega) (fun j e' n hj hn A=>?_) (fun j e' n hj hn A hI=>?_)
    (fun j j' f1 f2 n1 n2 b1 b2 hj T M N Z X Y U W x1 x2=>?_)⟩
   have ce:j<l.length:=(Po.1 hj).1;rw[O.low _ (by have:=V.room;have:=F.len;omega)];exact V.none j e' n hj hn (fun h=>A ((C5 J).2 (.inl h)))
   ·have E:j≠i:=by rintro rfl;rw[PK (hj.symm.trans he),R]at hn;cases hn
    rw[C5 J]at A;obtain⟨b,_,hb⟩:=keep j e' n hj hn (A.resolve_right E) hI;exact⟨b,hb⟩
   ·have E:j≠i:=by rintro rfl;rw[PK (hj.symm.trans he),R]at M;cases M
    have K:j'≠i:=by rintro rfl;rw[PK (T.symm.trans he),R]at N;cases N
    rw[C5 J]at X Y;obtain⟨c1,y1,z1⟩:=keep j f1 n1 hj M (X.resolve_right E) U;obtain⟨c2,y2,z2⟩:=keep j' f2 n2 T N (Y.resolve_right K) W;have ab:∀ {id:Nat} {n:Nw} {b c:Nat},Ext B σ' S' w' id n c->Ext B σ' S' w' id n b->b=c:=by intro id n b c hx hy;obtain⟨p,_,p1,p2,_⟩:=hx;obtain⟨q,_,q1,q2,_⟩:=hy;have:p=q:=PK (p1.symm.trans q1);rw[<-p2,<-q2,this]
    rw[ab z1 x1,ab z2 x2];rw[av,Nat.testBit_or,Rq]at U W;exact V.apart j j' f1 f2 n1 n2 c1 c2 hj T M N Z (X.resolve_right E) (Y.resolve_right K) U.1 W.1 y1 y2
theorem Fix.all (f:L.size=ops.size)(hr:Region.ready .any ops L=[]):∀j,j<ops.size->lst L j:=by
 intro j;induction j using Nat.strongRecOn with
 |_ j h=>
  intro hj;by_cases hl:lst L j;grind
  ·exfalso;have hm:j∈Region.ready .any ops L:=by refine mem_ready.2 ⟨?_,ops[j],by grind,fun b c hb=>?_⟩;unfold lst at hl;grind;obtain⟨e,he,d⟩:=F.ent (o:=ops[j]) (j:=j) (by simp);have:=(F.p1 he).2 b (by grind) hb;exact h b.on this (by omega)
   grind
theorem Fix.ends (V:Inv B w0 P call nt ops nx0 l tm0 tmN S0 SN IN σ0 D L a w σ k S I)(f:∀j,j<ops.size->lst L j):vX nx0 B w0 σ0 nt .normal tmN (Xe.takes nx0 (Bh IN) l.reverse SN) D .normal a w:=by
 obtain⟨tmk,n⟩:=V.cut;have b:∀ {j:Nat} {e:Ent},l[j]? =some e->lst L j:=fun h=>f _ (by have:=(Po.1 h).1;have:=F.len;omega);have d:=n.still (fun e hm=>by obtain⟨m,c⟩:=Qr.1 hm;rw[Qb]at c;intro h3;have:=(V.wr _ e c h3).1 (b c);omega);obtain⟨q,r,_⟩:=F.takes V (PH _) (Bh IN) (fun j hj hm=>by
  have:l[j]? =some l[j]:=by grind
  refine⟨b this,?_⟩;rw[<-d.2];simpa [Bh]using hm)
 rw[List.take_length]at q r;rw[<-d.1]at q r;refine⟨rfl,V.defers,σ,by rw[r,d.1];exact V.gr,⟨V.tsz,fun t=>?_⟩,q⟩;by_cases hx:∃(j:Nat) (e:Ent),l[j]? =some e/\e.o.dst=some t;obtain⟨j,e,hj,p⟩:=hx;rw[F.chain.tm_some hj p (fun m z hm v u=>(F.p2 hm hj v).1 t p u)];exact V.tin j e t hj (b hj) p;rw[F.chain.tm_none (fun e he p=>by obtain⟨m,hm⟩:=Qr.1 he;exact hx ⟨m,e,hm,p⟩)];exact V.tout t (by grind)
omit F
def yB (L:Array Bool):Nat:=(L.toList.filter (fun b=> !b)).length
theorem rW :∀(l:List Bool) (i:Nat),l[i]? =some false->((l.set i true).filter (fun b=> !b)).length+1=(l.filter (fun b=> !b)).length
 | [],i,h=>by grind|b::l,0,h=>by grind|b::l,i+1,h=>by have:=rW l i (by grind);grind
theorem CX (h:L.getD i true=false):yB (L.setIfInBounds i true)+1=yB L:=by have hi:=(DL h).1;unfold yB;rw[Array.toList_setIfInBounds];refine rW L.toList i ?_;simp_all
include F
theorem Fix.any (c:O9 P call)(r:Ai):∀(b:Nat) (L:Array Bool) (a:Act) (w:Bc) (σ:Sg) (k:Nat) (S:Hp) (I:Nat),yB L=b->Inv B w0 P call nt ops nx0 l tm0 tmN S0 SN IN σ0 D L a w σ k S I->wpAnyIn (RF r) 0 P .any ops (vX nx0 B w0 σ0 nt .normal tmN (Xe.takes nx0 (Bh IN) l.reverse SN) D) b L a w:=by
 intro b;induction b with
 |zero=>
  intro L a w σ k S I hf V;have hr:Region.ready .any ops L=[]:=by
   cases f:Region.ready .any ops L with
   |nil=>rfl|cons i r=>
    have:i∈Region.ready .any ops L:=by grind
    have:=CX (mem_ready.1 this).1;omega
  exact⟨hr,F.ends V (F.all V.size hr)⟩
 |succ b m=>intro L a w σ k S I hf V;refine⟨fun hr=>F.ends V (F.all V.size hr),fun i hi=>?_⟩;have d:=CX (mem_ready.1 hi).1;refine wpOpIn_mono (fun h w' hV=>?_) (F.step c V hi _ r);grind
end
variable {P:Aw}
def IX {call:j8}(f:O9 P call){nt:Nat}{ops:Am}{tm:Ao}{hp:Hp}{tm':Ao}{hp':Hp}(h:mN P call nt ops.toList tm hp=some (tm',hp')){B:BS}{w0:Bc}{σ:Sg}{a:Act}{w:Bc}(ht:TR σ nt tm a.tmps)(v:HR B w0 σ hp w)(r:Ai):wpAnyIn (RF r) 0 P .any ops (vX hp.nx B w0 σ nt .normal tm' hp' a.defers) ops.size (Array.replicate ops.size false) a {w with drawn:=w.drawn+1}:=by
 unfold mN at h;cases q:stat ops.toList (dQ ops.toList [])with
 |false=>rw[q]at h;cases h
 |true=>
  rw[q,PB]at h;split at h
  ·rename_i d u;cases o:dyn P ⟨hp.m,hp.nx+ops.toList.length⟩ d.es with
   |false=>rw[o]at h;cases h
   |true=>
    rw[o,PB]at h;simp only[Pj,Pn]at h;obtain⟨rfl,rfl⟩:=h;obtain⟨l,h1,h2,h3⟩:=IZ _ 0 tm _ 0 [] d u rfl;rw[QX]at h1;have F:Fix P call nt ops (dQ ops.toList []) hp.nx l tm d.tm ⟨hp.m,hp.nx+ops.toList.length⟩ d.S d.I:=⟨q,by rw[<-h1];exact o,h2,h3⟩
    rw[h1];have p:yB (Array.replicate ops.size false)=ops.size:=by simp[yB]
    refine F.any (B:=B) (w0:=w0) (σ0:=σ) f r ops.size _ a _ σ 0 ⟨hp.m,hp.nx+ops.toList.length⟩ 0 p ?_;have c:∀j,¬lst (Array.replicate ops.size false) j:=by intro j hl;unfold lst at hl;by_cases hj:j<ops.size<;>simp[hj]at hl
    have hr:HR B w0 σ ⟨hp.m,hp.nx+ops.toList.length⟩ w.drew:=
     v.drew.sub (Nat.le_add_right _ _) fun i b hg=>hg
    refine⟨by simp,fun j e hj hl=>absurd hl (c j),rfl,ht.size,fun j e t hj hl=>absurd hl (c j),fun t _=>ht.at_ t,⟨tm,by simpa using h3⟩,.inl ⟨rfl,rfl⟩,fun j e hj _=>⟨fun h=>absurd h (c j),fun h=>by omega⟩,
     hr,⟨Sg.le_refl σ,fun _ _=>rfl,by simp⟩,by simp,fun j e n hj hn _=>?_,fun j e n hj hn hl=>absurd hl (c j),fun j j' e e' n n' b b' hj z hn A C hl=>absurd hl (c j)⟩
    exact v.fresh _ (by omega)
  cases h
def Mb (hm:P.follows .mixedOrders=true):iO P (mN P):=
 fun _ b _ _ _ _ _ _ _ h _ _ _ _ _ ht c r=>wpIn_region_any hm (IX b h ht c r)
end Go.Xe
namespace Go.Xe
open Go.RowKit
def Od (ops:Am)(l:Ah):Prop:=
 ∀l1 i l2,l=l1++i::l2-> ∃o,ops[i]? =some o/\ ∀e∈o.after,Region.binds .any e=true->e.on∈l1
structure rI (ops:Am)(l:Ah):Prop where
 nodup:l.Nodup
 mem:∀i,i∈l↔i<ops.size
 behind:Od ops l
def mK (ops:Am)(x y:Nat)(g:Ground):Am:=ops.modify y fun o=> {o with after:=o.after.push ⟨x,g⟩}
variable {ops:Am}{x y:Nat}{g:Ground}
theorem BK {i:Nat}:(mK ops x y g)[i]? =if y=i then(ops[i]?).map fun o=> {o with after:=o.after.push ⟨x,g⟩}else ops[i]? :=by unfold mK;grind
theorem rI.edge {d f:Ah}(h:rI ops (d++y::f))(hx:x∈d):rI (mK ops x y g) (d++y::f):=by
 refine⟨h.nodup,fun i=>by rw[h.mem i];simp[mK],fun k1 i k2 he=>?_⟩;obtain⟨o,p,u⟩:=h.behind k1 i k2 he;rw[BK];by_cases hi:y=i
 ·subst hi;rw[PG rfl,p];refine⟨_,rfl,fun e b hb=>?_⟩;rcases Array.mem_push.1 b with b|rfl;grind
  ·have q:y∉d:=fun hc=>by have:=h.nodup;grind
   have r:y∉k1:=fun hc=>by have:=h.nodup;grind
   have t:d=k1:=by
    rcases List.append_eq_append_iff.1 he with⟨c,m,n⟩| ⟨c,m,n⟩
    ·cases c with
     |nil=>grind|cons c0 c=>grind
    ·cases c with
     |nil=>grind|cons c0 c=>grind
   grind
 grind
theorem rI.first {l:Ah}(h:rI ops l)(hx:x<ops.size)(hy:y<ops.size)(f:x≠y):(∃b d,l=b++y::d/\x∈b)\/(∃b d,l=b++x::d/\y∈b):=by obtain⟨b,d,e⟩:=List.append_of_mem ((h.mem y).2 hy);have c:=(h.mem x).2 hx;rw[e]at c;rcases PZ.1 c with h1|h1;grind;rcases Qa.1 h1 with h1|h1;grind;obtain⟨n,o,m⟩:=List.append_of_mem h1;grind
structure Alike (ops ops':Am)(ρ:Nat->Nat):Prop where
 get:∀(i:Nat) o,ops[i]? =some o-> ∃o',ops'[ρ i]? =some o'/\o'.op=o.op/\o'.dst=o.dst/\o'.type=o.type/\o'.guard=o.guard.map (fun g=>(ρ g.1,g.2))
 yielded:∀tmps (i:Nat) o g,ops[i]? =some o->o.guard=some g->yielded ops' tmps (ρ g.1)=yielded ops tmps g.1
section
variable {P :Aw}{B:BS}{w0:Bc}
end
section
variable {P :Aw}{call:j8}{nt nx0:Nat}
end
section
variable {P :Aw}{call:j8}{nt nx0:Nat}
end
def A3 (P:Aw):Z6:=fun call nt all tm hp=>mN P call nt all tm hp
variable {P:Aw}
def IW (hm:P.follows .mixedOrders=true):iO P (A3 P):=by intro call b nt ops id tm hp tm' hp' h B w0 σ a w ht c r;exact Mb hm call b nt ops id tm hp tm' hp' h B w0 σ a w ht c r
def G1 (P:Aw)(ov:Aa)(n:Nat):j8:=aQ P (A3 P) ov n
def GS (hm:P.follows .mixedOrders=true){ov:Aa}(b:∀g t,ov g=some t->iQ P g t)(n:Nat):O9 P (G1 P ov n):=Ct (IW hm) b n
end Go.Xe
namespace Go.Xe
open Go.RowKit
def yes (r:Bb (Av×Hp)):Bool:=
 match r with
 |some (.bool b,_)=>b|_=>false
def Hp.empty :Hp:=⟨.e,0⟩
def Sg.none :Sg:=⟨fun _ _=>Option.none⟩
def HR.start (w:Bc):HR (BS.below w) w Sg.none Hp.empty w:=
 ⟨rfl,rfl,rfl,PH _,fun _ (h:_<_)=>h,fun _ _=>rfl,fun _ _ _=>rfl,fun i b r h=>by simp[Hp.empty,RZ]at h,fun i j b b' r s p q h=>by simp[Hp.empty,RZ]at h,fun i b h=>by simp[Hp.empty,RZ]at h⟩
def HR.toBelow {σ:Sg}{hp:Hp}{w w':Bc}(h:HR (BS.below w) w σ hp w'):Below w.heap.size w w':=
 ⟨h.os,h.tape,h.output,h.size,h.kept⟩
def noOv :Aa:=fun _=>none
variable {P:Aw}
def MC :∀g t,noOv g=some t->iQ P g t:=fun _ _ h=>by cases h
def zP (P:Aw)(g:Ay):Func:=(P.funcs[g]?).getD {name:= "",origin:= "",params:= #[],resultTypes:= #[],nfree:=0,ntmps:=0,results:= #[],body:=none,norace:=false,tmpNames:= #[]}
variable {g:Ay}
theorem iQ.of {t:Ax}(r:Ax)(h0:(P.funcs[g]?).isSome=true)(h1:((zP P g).name== "runtime.NumGoroutine")=false)(h2:(zP P g).body.isNone=true)(h3:Extern.findNext (zP P g)=none)(h4:Extern.find (zP P g)=some (Extern.SlicesOverlaps.overlaps #[t,t] #[r]))(b:t≠iK:=by decide):iQ P g t:=by refine .inr ⟨b,zP P g,r,?_,h1,h2,h3,h4⟩;unfold zP;grind
def AI (g0:Ay)(t0:Ax)(rest:Aa):Aa:=fun g=>bif Nat.beq g g0 then some t0 else rest g
theorem MH {b:Ay}{t0:Ax}{rest:Aa}(h:iQ P b t0)(hr:∀g t,rest g=some t->iQ P g t):∀g t,AI b t0 rest g=some t->iQ P g t:=by
 intro g t hg;unfold AI at hg;cases hb:Nat.beq g b with
 |true=>simp_all|false=>grind
def MI (h:Ey P g):iQ P g iK:= .inl ⟨rfl,h⟩
end Go.Xe
namespace Go.Xe
open Go.RowKit
section
open Go.ChangeShapes
variable {H :Type}{enc:Ax×Av->H}{P:Aw}{w:Bc}{base:Nat}{spare:Nat->Bool}{held:Bool}
