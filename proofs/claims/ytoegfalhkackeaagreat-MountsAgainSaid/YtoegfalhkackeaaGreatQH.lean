/- Mounts: the handles of a node are yielded (below): the loop over the children.
  Conditions: none. -/
import Derived.Test.YtoegfalhkackeaaGreatQD
import Derived.Test.YtoegfalhkackeaaGreatI2
set_option maxRecDepth 10000
set_option linter.all false
noncomputable section
namespace Go.D
open Go Go.Xe Go.Sx
def hv (D:DM)(x:Nat):Af:=[.int .u32 x,.int .u32 (D.gen x)]
def FL (D:DM)(x:Nat):(hv D x).length=2:=rfl
def HSl (D:DM)(l:Ah)(q:Aq)(P:Nat->Blk->Prop):Prop:=∀(j x:Nat),l[j]? =some x-> ∃ic oc bc dc nc zc,q=some ⟨ic,oc,none⟩/\P ic bc/\rdC bc=some (dc,nc,zc)/\oc+j*2+2<=nc/\j9 dc (oc+j*2) 2=some (hv D x)
def AA (ov:Aa)(D:DM)(nS:Nat)(gS:FB)(u:Av):Prop:=∀(c:Nat) (s:Sl) (hp:Hp),D.L[c]? =some s->s.used=true->nS<=hp.nx->(∀b,b<nS->hp.m.get b=gS b)->
 ∃(hp':Hp) (vs:Af) (r:Av) (q:Aq) (cc:Nat),Y0 PR ov lkF [u,.agg (hv D c).toArray] hp (.tuple [.agg vs.toArray,r].toArray) hp'/\hp.nx<=hp'.nx/\(∀b,b<hp.nx->hp'.m.get b=hp.m.get b)/\vs.length=10/\vs.all Value.oneCell'=true/\vs[9]? =some (.slice q s.n.ch.length cc)/\
  HSl D s.n.ch q fun ic bc=>hp'.m.get ic=some bc/\ic<hp'.nx/\(ic<nS\/hp.nx<=ic)
def xH (ov:Aa)(D:DM)(nS:Nat)(gS:FB)(u:Av)(c:Nat):Prop:=∀(i n0 k0 b ob bd od nb eb zb nd ed zd:Nat) (O0 O:Nat->Prop) (g0:FB) (J:Nat->(Nat->Prop)->FB->Prop) (Y:Nat->Af->Prop) (hp:Hp) (cs cd:Ao),
 sP PR ov i 2 n0 g0 O0 J Y->OSt n0 g0 O0 J k0 O hp->hp.m.get b=some (.cells cs nb eb zb)->ob+2<=nb->j9 cs ob 2=some (hv D c)->b<hp.nx-> ¬O b->hp.m.get bd=some (.cells cd nd ed zd)->od+1<=nd->cd.get od=some u->bd<hp.nx-> ¬O bd->
 nS<=hp.nx->(∀b,b<nS->hp.m.get b=gS b)->(∀b,O b->nS<=b)->
 (∀(q x:Nat),(bel D 1001 c)[q]? =some x->Y (k0+q) [.agg (hv D x).toArray])->
 ∃hp' O',Y0 PR ov bF [.chan (some i),.pointer (some ⟨b,ob,none⟩),.pointer (some ⟨bd,od,none⟩)] hp (.tuple #[]) hp'/\OSt n0 g0 O0 J (k0+(bel D 1001 c).length) O' hp'/\Kp O hp hp'/\(∀b,O b->O' b)/\ ∀b,O' b->O b\/hp.nx<=b
def Kp.sub {O a:Nat->Prop}{hp hp1 hp2:Hp}(h:Kp O hp hp1)(h':Kp a hp1 hp2)(m:∀b,a b->O b\/hp.nx<=b):Kp O hp hp2:=
 ⟨Us h.1 h'.1,fun b hb c=>(h'.2 b (Uo hb h.1) fun h2=>(m b h2).elim c fun h3=>by omega).trans (h.2 b hb c)⟩
section
variable {ov :Aa}{D:DM}{nS:Nat}{gS:FB}{u:Av}{i n0 k0 y bd od nd ed zd ll cc:Nat}{O0 Oa:Nat->Prop}{g0:FB}{J:Nat->(Nat->Prop)->FB->Prop}{Y:Nat->Af->Prop}{hpa:Hp}{cd:Ao}{l:Ah}{q:Aq}{p:Aq}
def LI (ak:Xe.isT (ov bG)=false)(hu:u= .pointer p)(IH:∀c∈l,xH ov D nS gS u c)(az:l.length<1000000)(R:sP PR ov i 2 n0 g0 O0 J Y)(na:n0<=hpa.nx)(y0:¬Oa y)(y1:y<hpa.nx)(hy:hpa.m.get y=some (.cells (fill .e 0 [.chan (some i)]) 1 tYh 1))(d0:¬Oa bd)(d1:bd<hpa.nx)(hd:hpa.m.get bd=some (.cells cd nd ed zd))(an:od+1<=nd)(aj:cd.get od=some u)(ns:nS<=hpa.nx)(hS:∀b,b<nS->hpa.m.get b=gS b)(oS:∀b,Oa b->nS<=b)(hl:HSl D l q fun G bc=>hpa.m.get G=some bc/\G<hpa.nx/\ ¬Oa G)(hY:∀(q x:Nat),(l.flatMap (bel D 1001))[q]? =some x->Y (k0+q) [.agg (hv D x).toArray]):∀(r g:Ah) (tm:Ao) (hp:Hp) (O:Nat->Prop),l=g++r->tm.get 2=some (.pointer (some ⟨bd,od,none⟩))->tm.get 3=some (.pointer (some ⟨y,0,none⟩))->tm.get 20=some (.slice q l.length cc)->tm.get 21=some (.int .i64 l.length)->tm.get 22=some (.int .i64 g.length)->OSt n0 g0 O0 J (k0+(g.flatMap (bel D 1001)).length) O hp->Kp Oa hpa hp->(∀b,Oa b->O b)->(∀b,O b->Oa b\/hpa.nx<=b)-> ∃tm' hp' O',XK PR ov none 35 (.loop bLp) tm hp (.exit 0) tm' hp'/\OSt n0 g0 O0 J (k0+(l.flatMap (bel D 1001)).length) O' hp'/\Kp Oa hpa hp'/\(∀b,Oa b->O' b)/\ ∀b,O' b->Oa b\/hpa.nx<=b:=by
 intro r;induction r with
 |nil=>
  intro g tm hp O e t2 t3 F w t22 S K m1 H;rw[UV]at e;obtain⟨tm1,hp1,X3,t,e1⟩:=b_4 (ov:=ov) (ar:=none) (hp:=hp) (Q:=fun tm1 h1=>tm1.get 23=some (.bool (decide ((g.length:Int)<(l.length:Int))))/\h1=hp) w t22 fun tm1 a b=>⟨b,rfl⟩
  subst e1;rw[UJ (by rw[e];omega)]at t;refine⟨tm1,hp1,O,XK.loopX (X3.seq (XK.seqX (XK.condF (evt t) .exit) (fun h=>by cases h))) (fun h=>by cases h),?_,K,m1,H⟩;rw[e];exact S
 |cons c r ih=>
  intro g tm hp O e t2 t3 F w t22 S K m1 H;have ax:g.length<l.length:=by rw[e];simp
  have ai:c∈l:=by rw[e];simp
  have ah:l[g.length]? =some c:=by rw[e];simp
  obtain⟨tm1,hp1,X3,z,t,e1⟩:=b_4 (ov:=ov) (ar:=none) (hp:=hp) (Q:=fun tm1 h1=>(∀x,x≠23->tm1.get x=tm.get x)/\tm1.get 23=some (.bool (decide ((g.length:Int)<(l.length:Int))))/\h1=hp) w t22 fun tm1 a b=>⟨a,b,rfl⟩
  subst e1;rw[decide_eq_true (by omega)]at t;obtain⟨G,oc,bc,dc,nc,zc,eq,⟨f1,f2,f3⟩,ao,ae,al⟩:=hl _ _ ah;subst eq;have nO:∀b,b<hpa.nx-> ¬Oa b-> ¬O b:=fun b hb h h'=>(H b h').elim h fun h3=>by omega
  have W:hp1.m.get G=some bc:=(K.2 G f2 f3).trans f1;have bh:=K.1;have tn:((g.length:Nat):Int).toNat=g.length:=rfl;obtain⟨s,n,X4,L,aw,e4⟩:=b_5 (ov:=ov) (ar:=none) (tm:=tm1) (hp:=hp1) (ws:=hv D c) (Q:=fun s h4=>(∀x,x<24->x≠7->s.get x=tm1.get x)/\s.get 7=some (.pointer (some ⟨hp1.nx,0,none⟩))/\h4=⟨(hp1.m.set hp1.nx (some (.cells zHB 2 tHn 2))).set hp1.nx (some (.cells (fill zHB 0 (hv D c)) 2 tHn 2)),hp1.nx+1⟩)
   (by rw[z 20 (by decide)];exact F) (by rw[z 22 (by decide)];exact t22) (by omega) (by omega) W ao (by rw[tn];exact ae) (by rw[tn];exact al) rfl rfl fun s a b=>⟨a,b,rfl⟩
  have g4:∀b,b<hp1.nx->n.m.get b=hp1.m.get b:=fun b hb=>by rw[e4];show((hp1.m.set hp1.nx _).set hp1.nx _).get b=_;rw[VX,TH (by omega),VX,TH (by omega)]
  have ab:n.m.get hp1.nx=some (.cells (fill zHB 0 (hv D c)) 2 tHn 2):=by rw[e4];show((hp1.m.set hp1.nx _).set hp1.nx _).get hp1.nx=_;rw[VX,TJ rfl]
  have ba:n.nx=hp1.nx+1:=by rw[e4]
  have hd1:hp1.m.get bd=some (.cells cd nd ed zd):=(K.2 bd d1 d0).trans hd;obtain⟨X,XG,bb,M,ac,g5⟩:=Jp (ov:=ov) (hp:=n) (p:=p) (ws:=hv D c) ak rfl;rw[<-hu]at XG M;have ap:H7 n X:=⟨by omega,fun b hb h=>by rw[g5 b hb];exact h⟩
  obtain⟨k,d,X5,Z,av,e5⟩:=b_6 (ov:=ov) (ar:=none) (tm:=s) (Q:=fun k h5=>(∀x,x<26->k.get x=s.get x)/\k.get 28=some (.func (.func bF) #[] #[.pointer (some ⟨n.nx+1,0,none⟩),.pointer (some ⟨n.nx,0,none⟩)])/\h5=X)
   (by rw[L 2 (by decide) (by decide),z 2 (by decide)];exact t2) ((g4 bd (by omega)).trans hd1) an aj aw ab (iX rfl) XG ap fun k a b=>⟨a,b,rfl⟩
  subst e5;have aa:k.get 3=some (.pointer (some ⟨y,0,none⟩)):=by rw[Z 3 (by decide),L 3 (by decide) (by decide),z 3 (by decide)];exact t3
  have Sn:=S.nx;have U:∀b,b<hp1.nx->d.m.get b=hp1.m.get b:=fun b hb=>(g5 b (by omega)).trans (g4 b hb);have A:=S.lt;have S5:OSt n0 g0 O0 J (k0+(g.flatMap (bel D 1001)).length) O d:=S.grow R (by omega) fun b hb=>U b (by rcases hb with hb|hb;omega;exact A b hb);let lp:Blk:= .loop .ready none 35 k #[29] bR7 bBo d.nx
  let f:Hp:=⟨(d.m.set d.nx (some .dfr)).set (d.nx+1) (some lp),d.nx+2⟩
  have N:∀b,b<d.nx->f.m.get b=d.m.get b:=fun b hb=>by show((d.m.set d.nx _).set (d.nx+1) _).get b=_;rw[VX,TH (by omega),VX,TH (by omega)]
  have ad:f.m.get d.nx=some .dfr:=by show((d.m.set d.nx _).set (d.nx+1) _).get d.nx=_;rw[VX,TH (by omega),VX,TJ rfl]
  have P:f.m.get (d.nx+1)=some lp:=by show((d.m.set d.nx _).set (d.nx+1) _).get (d.nx+1)=_;rw[VX,TJ rfl]
  have be:f.nx=d.nx+2:=rfl;have B:∀b,b<hp1.nx->f.m.get b=hp1.m.get b:=fun b hb=>by rw[N b (by omega),U b hb]
  have I:∀b,hp1.nx<=b-> ¬O b:=fun b hb h=>by have:=A b h;omega
  have gy:f.m.get y=some (.cells (fill .e 0 [.chan (some i)]) 1 tYh 1):=by rw[B y (by omega),K.2 y y1 y0];exact hy
  have S6o:OSt n0 g0 O0 J (k0+(g.flatMap (bel D 1001)).length) O f:=S5.grow R (by omega) fun b hb=>N b (by rcases hb with hb|hb;omega;have:=A b hb;omega);have RI:sP PR ov (d.nx+1) 2 f.nx f.m.get O J Y:=RM R S6o P (I _ (by omega)) (by omega) (by omega) gy (nO y y1 y0) (by omega) (by omega) aa;obtain⟨o,O7,XA,S7,K7,m7,w7⟩:=IH c ai (d.nx+1) f.nx (k0+(g.flatMap (bel D 1001)).length) (n.nx+1) 0 n.nx 0 2 tHn 2 1 tDp 1 O O f.m.get J Y f (fill .e 0 (hv D c)) (fill .e 0 [u]) RI S6o.start (by rw[N _ (by omega)];exact ac) (by omega) (iX rfl) (by omega) (I _ (by omega))
   (by rw[N _ (by omega)];exact M) (by omega) (by rw[p6 _ _ (by simp)];rfl) (by omega) (I _ (by omega)) (by omega) (fun b hb=>by
    have:¬Oa b:=fun h=>by have:=oS b h;omega
    rw[B b (by omega),K.2 b (by omega) this];exact hS b hb) (fun b hb=>(H b hb).elim (oS b) fun h=>by omega)
   (fun p x hp=>by have:=hY ((g.flatMap (bel D 1001)).length+p) x (by rw[e,List.flatMap_append,Tt (by omega),List.flatMap_cons,UH,Tu (Tn.1 hp).1];exact hp);rwa[<-Uu]at this)
  have n7:=S7.nx;have o7:∀b,b<f.nx-> ¬O b->o.m.get b=f.m.get b:=fun b hb E=>K7.2 b hb E;have XR:XK PR ov none 35 (.rangeFunc (.tmp 28) #[29] bR7 bBo) k d .normal k ⟨o.m.set (d.nx+1) none,o.nx⟩:=XK.range (evt av) b_fn b_ok XA ((o7 _ (by omega) (I _ (by omega))).trans ad) ((o7 _ (by omega) (I _ (by omega))).trans P) (by omega) fun b hb V=>by have E:¬O b:=fun E=>R.nodfr _ _ _ b S5.j E V;rw[o7 b (by omega) E,N b hb];exact V
  let C:Hp:=⟨o.m.set (d.nx+1) none,o.nx⟩
  have g8:∀b,b<hp1.nx-> ¬O b->C.m.get b=hp1.m.get b:=fun b hb E=>by show(o.m.set (d.nx+1) none).get b=_;rw[VX,TH (by omega),o7 b (by omega) E,B b hb]
  have bg:C.nx=o.nx:=rfl;have aq:¬O7 (d.nx+1):=fun h=>by rcases w7 _ h with h|h;exact I _ (by omega) h;omega
  have S8:OSt n0 g0 O0 J (k0+((g++ [c]).flatMap (bel D 1001)).length) O7 C:=by
   have e1:((g++ [c]).flatMap (bel D 1001)).length=(g.flatMap (bel D 1001)).length+(bel D 1001 c).length:=by simp[List.flatMap_append]
   rw[e1,<-Uu];refine(S6o.out S7).grow R (by omega) fun b hb=>?_;show(o.m.set (d.nx+1) none).get b=_;rw[VX,TH];rintro rfl;rcases hb with hb|hb;omega;exact aq hb
  have K8:Kp O hp1 C:=⟨by omega,g8⟩
  obtain⟨v,ay,X8,q8,au,e8⟩:=b_9 (ov:=ov) (ar:=none) (tm:=k) (hp:=C) (j:=g.length) (Q:=fun v h=>(∀x,x<22->v.get x=k.get x)/\v.get 22=some (.int .i64 ((g.length:Int)+1))/\h=C) (by rw[Z 22 (by decide),L 22 (by decide) (by decide),z 22 (by decide)];exact t22) (by omega) (by omega) fun v a b=>⟨a,b,rfl⟩
  subst e8;obtain⟨tm',hp',O',XL,SL,KL,m',w'⟩:=ih (g++ [c]) v C O7 (by rw[e];simp) (by rw[q8 2 (by decide),Z 2 (by decide),L 2 (by decide) (by decide),z 2 (by decide)];exact t2) (by rw[q8 3 (by decide)];exact aa) (by rw[q8 20 (by decide),Z 20 (by decide),L 20 (by decide) (by decide),z 20 (by decide)];exact F) (by rw[q8 21 (by decide),Z 21 (by decide),L 21 (by decide) (by decide),z 21 (by decide)];exact w) (by rw[au];simp) S8 (K.sub K8 H) (fun b hb=>m7 b (m1 b hb)) (fun b hb=>by rcases w7 b hb with h|h;exact H b h;exact .inr (by omega));exact⟨tm',hp',O',XK.loopN (X3.seq (XK.seq (XK.condT (evt t) .skip) (XK.seq (XK.block (X4.seq (X5.seq (XK.block XR)))) X8))) XL,SL,KL,m',w'⟩
