/- Mounts: the nodes of a tree are yielded (all): the loop over the children, and the whole.
  Conditions: none. -/
import Derived.Test.YtoegfalhkackeaaGreatQ6
set_option maxRecDepth 10000
set_option linter.all false
noncomputable section
namespace Go.D
open Go Go.Xe Go.Sx
def xP :∀l:List a9,l.length<=a9.sizes l
 | []=>Ri _|s::l=>by have:=xP l;have:=V3 s;simp only[a9.sizes,RC];omega
section
variable {ov :Aa}{s:a9}{i n0 k0 y:Nat}{W:Nat->Prop}{g0 F:FB}{J:Nat->FB->Prop}{Y:Nat->Af->Prop}{hpa:Hp}{vc:Av}
def JX (ai:Xe.isT (ov aG)=false)(IH:∀c∈s.c,Oo ov c)(aw:s.c.length<1000000)(R:Ey PR ov i W n0 g0 J Y)(y0:n0<=y)(y1:y<hpa.nx)(hy:hpa.m.get y=some (.cells (fill .e 0 [.chan (some i)]) 1 tYl 1))(hF:∀x z,F x=some z->hpa.m.get x=some z/\x<hpa.nx/\ ¬W x)(hv:PV PR F (.sl tN) vc (.lst (rows s.c)))(hY:∀(q:Nat) (n:a9) (ws:Af),(gM s)[q]? =some n->ws.length=6->NT F n (fun p=>ws[p]?)->Y (k0+q) [.agg ws.toArray]):∀(r g:List a9) (tm:Ao) (hp:Hp),s.c=g++r->tm.get 2=some (.pointer (some ⟨y,0,none⟩))->tm.get 11=some vc->tm.get 12=some (.int .i64 s.c.length)->tm.get 13=some (.int .i64 g.length)->St W n0 g0 J (k0+1+a9.sizes g) hp->Kp W hpa hp-> ∃tm' hp',XK PR ov none 25 (.loop aLp) tm hp (.exit 0) tm' hp'/\St W n0 g0 J (k0+1+a9.sizes s.c) hp'/\Kp W hpa hp':=by
 have U:∀b,n0<=b-> ¬W b:=fun b hb l=>by have:=R.wlt b l;omega
 intro r;induction r with
 |nil=>
  intro g tm hp e t2 G C w S K;rw[SM]at e;obtain⟨tm1,hp1,X3,v,Z⟩:=a_3 (ov:=ov) (ar:=none) (hp:=hp) (Q:=fun tm1 h1=>tm1.get 14=some (.bool (decide ((g.length:Int)<(s.c.length:Int))))/\h1=hp) C w fun tm1 a b=>⟨b,rfl⟩
  subst Z;rw[Su (by rw[e];omega)]at v;refine⟨tm1,hp1,XK.loopX (X3.seq (XK.seqX (XK.condF (evt v) .exit) (fun h=>by cases h))) (fun h=>by cases h),?_,K⟩;rw[e];exact S
 |cons c r ih=>
  intro g tm hp e t2 G C w S K;have au:g.length<s.c.length:=by rw[e];simp
  have ah:c∈s.c:=by rw[e];simp
  have ae:s.c[g.length]? =some c:=by rw[e];simp
  obtain⟨tm1,hp1,X3,H,v,Z⟩:=a_3 (ov:=ov) (ar:=none) (hp:=hp) (Q:=fun tm1 h1=>(∀x,x≠14->tm1.get x=tm.get x)/\tm1.get 14=some (.bool (decide ((g.length:Int)<(s.c.length:Int))))/\h1=hp) C w fun tm1 a b=>⟨a,b,rfl⟩
  subst Z;rw[decide_eq_true (by omega)]at v;obtain⟨ic,oc,cc,bc,dc,nc,zc,ws,ev,aj,al,ad,ak,P,L⟩:=Qc hv ae;subst ev;have ho:=L.one P;obtain⟨f1,f2,f3⟩:=hF ic bc aj;have M:hp1.m.get ic=some bc:=(K.2 ic f2 f3).trans f1;have bb:=K.1;have tn:((g.length:Nat):Int).toNat=g.length:=rfl;obtain⟨u,o,X4,V,aq,e4⟩:=a_4 (ov:=ov) (ar:=none) (tm:=tm1) (hp:=hp1) (ws:=ws) (Q:=fun u h4=>(∀x,x<15->x≠4->u.get x=tm1.get x)/\u.get 4=some (.pointer (some ⟨hp1.nx,0,none⟩))/\h4=⟨(hp1.m.set hp1.nx (some (.cells zB 6 tN 6))).set hp1.nx (some (.cells (fill zB 0 ws) 6 tN 6)),hp1.nx+1⟩)
   (by rw[H 11 (by decide)];exact G) (by rw[H 13 (by decide)];exact w) (by omega) (by omega) M al (by rw[tn];exact ad) (by rw[tn];exact ak) P ho (by omega) fun u a b=>⟨a,b,rfl⟩
  have g4:∀b,b<hp1.nx->o.m.get b=hp1.m.get b:=fun b hb=>by rw[e4];show((hp1.m.set hp1.nx _).set hp1.nx _).get b=_;rw[TQ,Re (by omega),TQ,Re (by omega)]
  have aa:o.m.get hp1.nx=some (.cells (fill zB 0 ws) 6 tN 6):=by rw[e4];show((hp1.m.set hp1.nx _).set hp1.nx _).get hp1.nx=_;rw[TQ,Rh rfl]
  have ax:o.nx=hp1.nx+1:=by rw[e4]
  obtain⟨N,XG,ay,ab,g5⟩:=GK (ov:=ov) (hp:=o) ai P;have an:I8 o N:=⟨by omega,fun b hb h=>by rw[g5 b hb];exact h⟩
  obtain⟨k,d,X5,X,ap,e5⟩:=a_5 (ov:=ov) (ar:=none) (tm:=u) (Q:=fun k h5=>(∀x,x<17->k.get x=u.get x)/\k.get 18=some (.func (.func aF) #[] #[.pointer (some ⟨o.nx,0,none⟩)])/\h5=N) aq aa (tD P) XG an fun k a b=>⟨a,b,rfl⟩
  subst e5;have O:k.get 2=some (.pointer (some ⟨y,0,none⟩)):=by rw[X 2 (by decide),V 2 (by decide) (by decide),H 2 (by decide)];exact t2
  have Sn:=S.nx;have B:∀b,b<hp1.nx->d.m.get b=hp1.m.get b:=fun b hb=>(g5 b (by omega)).trans (g4 b hb);have S5:St W n0 g0 J (k0+1+a9.sizes g) d:=S.grow R (by omega) fun b hb=>B b (by omega);let lp:Blk:= .loop .ready none 25 k #[19] aR6 aBo d.nx
  let f:Hp:=⟨(d.m.set d.nx (some .dfr)).set (d.nx+1) (some lp),d.nx+2⟩
  have D:∀b,b<d.nx->f.m.get b=d.m.get b:=fun b hb=>by show((d.m.set d.nx _).set (d.nx+1) _).get b=_;rw[TQ,Re (by omega),TQ,Re (by omega)]
  have ac:f.m.get d.nx=some .dfr:=by show((d.m.set d.nx _).set (d.nx+1) _).get d.nx=_;rw[TQ,Re (by omega),TQ,Rh rfl]
  have I:f.m.get (d.nx+1)=some lp:=by show((d.m.set d.nx _).set (d.nx+1) _).get (d.nx+1)=_;rw[TQ,Rh rfl]
  have az:f.nx=d.nx+2:=rfl;have gy:f.m.get y=some (.cells (fill .e 0 [.chan (some i)]) 1 tYl 1):=by rw[D y (by omega),B y (by omega),K.2 y y1 (U y y0)];exact hy
  have RI:Ey PR ov (d.nx+1) W f.nx f.m.get J Y:=inner R (by omega) (fun b hb l=>by rw[D b (by omega)];exact S5.old b hb l) I (by omega) (by omega) gy y0 (by omega) (by omega) O;have S6:St W f.nx f.m.get J (k0+1+a9.sizes g) f:=⟨Ri _,fun _ _ _=>rfl,R.stab _ _ _ S5.j fun b l=>D b (by have:=R.wlt b l;omega)⟩
  obtain⟨t,XA,S7,K7⟩:=IH c ah (d.nx+1) f.nx (k0+1+a9.sizes g) o.nx W f.m.get J Y F f (fill .e 0 ws) RI S6 (by rw[D _ (by omega)];exact ab) (by omega) (U _ (by omega)) (by rw[Cl];exact L)
   (fun x z hx=>by obtain⟨a1,a2,a3⟩:=hF x z hx;exact⟨by rw[D x (by omega),B x (by omega),K.2 x a2 a3];exact a1,by omega,a3⟩)
   (fun q n us hq hu hn=>by have:=hY _ n us (NJ e hq) hu hn;rwa[show k0+(1+a9.sizes g+q)=k0+1+a9.sizes g+q by omega]at this)
  have n7:=S7.nx;have XR:XK PR ov none 25 (.rangeFunc (.tmp 18) #[19] aR6 aBo) k d .normal k ⟨t.m.set (d.nx+1) none,t.nx⟩:=XK.range (evt ap) a_fn a_ok XA ((S7.old _ (by omega) (U _ (by omega))).trans ac) ((S7.old _ (by omega) (U _ (by omega))).trans I) (by omega) fun b hb hd=>by have l:¬W b:=fun l=>R.nodfr _ _ b S5.j l hd;rw[S7.old b (by omega) l,D b hb];exact hd
  let E:Hp:=⟨t.m.set (d.nx+1) none,t.nx⟩
  have g8:∀b,b<hp1.nx-> ¬W b->E.m.get b=hp1.m.get b:=fun b hb l=>by show(t.m.set (d.nx+1) none).get b=_;rw[TQ,Re (by omega),S7.old b (by omega) l,D b (by omega),B b hb]
  have ba:E.nx=t.nx:=rfl;have S8:St W n0 g0 J (k0+1+a9.sizes (g++ [c])) E:=by refine⟨by omega,fun b hb l=>by rw[g8 b (by omega) l];exact S.old b hb l,?_⟩;rw[T8,show k0+1+(a9.sizes g+a9.sizes [c])=k0+1+a9.sizes g+c.size by simp only[a9.sizes];omega];refine R.stab _ _ _ S7.j fun b l=>?_;show(t.m.set (d.nx+1) none).get b=_;rw[TQ,Re (by have:=R.wlt b l;omega)]
  have K8:Kp W hpa E:=K.trans ⟨by omega,g8⟩;obtain⟨A,av,X8,q8,ao,e8⟩:=a_8 (ov:=ov) (ar:=none) (tm:=k) (hp:=E) (j:=g.length) (Q:=fun A h=>(∀x,x<13->A.get x=k.get x)/\A.get 13=some (.int .i64 ((g.length:Int)+1))/\h=E) (by rw[X 13 (by decide),V 13 (by decide) (by decide),H 13 (by decide)];exact w) (by omega) (by omega) fun A a b=>⟨a,b,rfl⟩
  subst e8;obtain⟨tm',hp',XL,SL,KL⟩:=ih (g++ [c]) A E (by rw[e];simp) (by rw[q8 2 (by decide)];exact O) (by rw[q8 11 (by decide),X 11 (by decide),V 11 (by decide) (by decide),H 11 (by decide)];exact G) (by rw[q8 12 (by decide),X 12 (by decide),V 12 (by decide) (by decide),H 12 (by decide)];exact C) (by rw[ao];simp) S8 K8;exact⟨tm',hp',XK.loopN (X3.seq (XK.seq (XK.condT (evt v) .skip) (XK.seq (XK.block (X4.seq (X5.seq (XK.block XR)))) X8))) XL,SL,KL⟩
