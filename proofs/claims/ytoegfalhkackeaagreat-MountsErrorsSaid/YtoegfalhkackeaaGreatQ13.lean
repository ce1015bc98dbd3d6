/- Mounts: Cost, in the executor.
  Conditions: none. -/
import Derived.Test.YtoegfalhkackeaaGreatQ11
set_option maxRecDepth 10000
set_option linter.all false
noncomputable section
namespace Go.D
open Go Go.Xe Go.Sx
def ndE (t:a9)(k:Nat):Au:=[.dat k (.int t.k),.dat (k+1) (.str t.t),.dat (k+2) (.str t.y),.dat (k+3) (.lst (t.a.map Att.row)),.dat (k+4) (.str t.x),.dat (k+5) (.lst (rows t.c))]
def ndV (t:a9)(k:Nat):SV:= .agg [.int .u8 (.dat k (.int t.k)),.str (.dat (k+1) (.str t.t)),.str (.dat (k+2) (.str t.y)),.lst tAt (.dat (k+3) (.lst (t.a.map Att.row))) false,.str (.dat (k+4) (.str t.x)),.lst tN (.dat (k+5) (.lst (rows t.c))) false]
def ndD (t:a9):Ar:=[.int t.k,.str t.t,.str t.y,.lst (t.a.map Att.row),.str t.x,.lst (rows t.c)]
def len6 {α:Type}{l:List α}(h:l.length=6):∃a b c d e f,l=[a,b,c,d,e,f]:=by
 match l,h with
 | [a,b,c,d,e,f],_=>exact⟨a,b,c,d,e,f,rfl⟩
def len1 {α:Type}{l:List α}(h:l.length=1):∃a,l=[a]:=by
 match l,h with
 | [a],_=>exact⟨a,rfl⟩
def Oe {τ:Tau}{F:FB}{t:a9}{vs:Af}(k:Nat)(n:vs.length=6)(h:NT F t (fun q=>vs[q]?)):VD PR U0 τ F (ndV t k) (.agg vs.toArray):=by
 obtain⟨a,b,c,d,e,f,rfl⟩:=len6 n;obtain⟨⟨h0,h1,h2,⟨o,h3,j⟩,h4⟩,vc,m,l⟩:=h;cases h0;cases h1;cases h2;cases h3;cases h4;cases m;refine .agg _ _ rfl fun i a x g hx=>?_
 match i,g,hx with
 |0,g,hx=>cases g;cases hx;exact .int _ _
 |1,g,hx=>cases g;cases hx;exact .str _
 |2,g,hx=>cases g;cases hx;exact .str _
 |3,g,hx=>cases g;cases hx;exact .lst _ _ _ _ j (fun h=>by cases h)
 |4,g,hx=>cases g;cases hx;exact .str _
 |5,g,hx=>cases g;cases hx;exact .lst _ _ _ _ l (fun h=>by cases h)
 |i+6,g,hx=>simp at hx
def Lv {τ:Tau}{F:FB}{t:a9}{v:Av}{a0 a1 a2 a3 a4 a5:E}(ht:isT t (a0.toI U0) (a1.den U0).toStr (a2.den U0).toStr (a3.toR U0) (a4.den U0).toStr (a5.toR U0))(h:VD PR U0 τ F (.agg [.int .u8 a0,.str a1,.str a2,.lst tAt a3 false,.str a4,.lst tN a5 false]) v):∃ws:Af,v= .agg ws.toArray/\ws.length=6/\NT F t (fun q=>ws[q]?):=by
 obtain⟨e0,b,c,d,e,f⟩:=ht;cases h with
 |agg l xs h1 h2=>
 obtain⟨x0,p,r,n,u,o,rfl⟩:=len6 (show xs.length=6 from h1.symm);have w0:=h2 0 _ _ rfl rfl;have g:=h2 1 _ _ rfl rfl;have i:=h2 2 _ _ rfl rfl;have j:=h2 3 _ _ rfl rfl;have k:=h2 4 _ _ rfl rfl;have m:=h2 5 _ _ rfl rfl;refine⟨_,rfl,rfl,⟨?_,?_,?_,⟨n,rfl,?_⟩,?_⟩,o,rfl,?_⟩;cases w0;rw[<-e0];rfl;cases g;rw[<-b];rfl;cases i;rw[<-c];rfl
 ·cases j with
  |lst _ _ _ _ a _=>rw[<-d];exact a
 cases k;rw[<-e];rfl
 ·cases m with
  |lst _ _ _ _ a _=>rw[<-f];exact a
section
variable {ov :Aa}{F:FB}{hp:Hp}{s:a9}{ws:Af}
def Nf (hk:p9 PR U0 ov cCnt nF)(hF:FH F hp)(d:ws.length=6)(h:NT F s (fun q=>ws[q]?)):∃hp' n,W8 PR ov nF [.agg ws.toArray] hp (i64 n) hp'/\I8 hp hp'/\(∀j,j<hp.nx->hp'.m.get j=hp.m.get j)/\(z5 s->n=s.size)/\(¬z5 s->n=0):=by obtain⟨v,F',hp',a,r1,i,o,p,r,k,l,b,c⟩:=hk.use rfl rfl rfl rfl (es:=ndE s 0) rfl (show qN (ndD s)from⟨s,rfl,rfl,rfl,rfl,rfl,rfl⟩) hF (xs:=[.agg ws.toArray]) (show VDL PR U0 _ F [ndV s 0] _ from .cons (Oe 0 d h) TY);obtain⟨e,rfl⟩:=len1 (show a.length=1 from l);have c:VD PR U0 (fun _=>none) F' (.int .i64 (.dat 0 (.int (e.toI U0)))) v:=c;have b:sE (ndD s) [.int (e.toI U0)]:=b;cases c;obtain⟨f,g⟩:=b s ⟨rfl,rfl,rfl,rfl,rfl,rfl⟩;exact⟨hp',e.toI U0,r1,i,k,f,g⟩
def ON (s:a9):Ak:=[(s.size:Int),s.size,0,(s.size:Int)-1,0,0,qU s,0]
def Kw (ak:Xe.isT (ov cF)=false)(al:Xe.isT (ov aF)=false)(V:Xe.isT (ov aG)=false)(hk:p9 PR U0 ov cCnt nF)(hF:FH F hp)(h6:ws.length=6)(h:NT F s (fun q=>ws[q]?)):∃hp' a b c d e f g z r,W8 PR ov cF [.agg ws.toArray] hp (.tuple #[.agg #[i64 a,i64 b,i64 c,i64 d,i64 e,i64 f,i64 g,i64 z],i64 r]) hp'/\hp.nx<=hp'.nx/\(∀j,j<hp.nx->hp'.m.get j=hp.m.get j)/\(z5 s->[a,b,c,d,e,f,g,z]=ON s/\r=0)/\(¬z5 s->[a,b,c,d,e,f,g,z]=[0,0,0,0,0,0,0,0]/\r=14):=by
 obtain⟨tm1,hp1,X0,q1,q2,e1⟩:=c_0 (ov:=ov) (ar:=none) (hp:=hp) (tm:=fill .e 0 [.agg ws.toArray]) (Q:=fun tm1 h1=>tm1.get 1=some (.pointer (some ⟨hp.nx,0,none⟩))/\tm1.get 2=some (.pointer (some ⟨hp.nx+1,0,none⟩))/\h1=⟨(hp.m.set hp.nx (some (.cells (fill .e 0 ws) 6 tN 6))).set (hp.nx+1) (some (.cells zCB 8 tC 8)),hp.nx+2⟩) (by rw[z7 _ _ (by simp)];rfl) h6 fun tm1 a b=>⟨a,b,rfl⟩
 have g1:∀b,b<hp.nx->hp1.m.get b=hp.m.get b:=fun b hb=>by rw[e1];show((hp.m.set hp.nx _).set (hp.nx+1) _).get b=_;rw[TQ,Re (by omega),TQ,Re (by omega)]
 have P:hp1.m.get hp.nx=some (.cells (fill .e 0 ws) 6 tN 6):=by rw[e1];show((hp.m.set hp.nx _).set (hp.nx+1) _).get hp.nx=_;rw[TQ,Re (by omega),TQ,Rh rfl]
 have ae:hp1.m.get (hp.nx+1)=some (.cells zCB 8 tC 8):=by rw[e1];show((hp.m.set hp.nx _).set (hp.nx+1) _).get (hp.nx+1)=_;rw[TQ,Rh rfl]
 have av:hp1.nx=hp.nx+2:=by rw[e1]
 have aj:FH F hp1:=fun x y hx=>by obtain⟨a1,a2⟩:=hF x y hx;exact⟨by rw[g1 x a2];exact a1,by omega⟩
 obtain⟨hp2,n,XN,aa,g2,nV,nN⟩:=Nf hk aj h6 h;have aw:=aa.nx;have W:n9 (fill .e 0 ws) 0 6=some ws:=tD h6;obtain⟨B,E,X1,ab,q4,e2⟩:=c_1 (ov:=ov) (ar:=none) (tm:=tm1) (n:=n) (Q:=fun B h2=>(∀x,x<3->B.get x=tm1.get x)/\B.get 4=some (i64 n)/\h2=hp2) q1 P W XN aa fun B a b=>⟨a,b,rfl⟩
 subst e2;obtain⟨w,k,X2,J,D,e3⟩:=c_2 (ov:=ov) (ar:=none) (tm:=B) (hp:=E) (n:=n) (Q:=fun w h3=>(∀x,x<5->w.get x=B.get x)/\w.get 10=some (.bool (decide (n=0)))/\h3=E) q4 fun w a b=>⟨a,b,rfl⟩
 subst e3;have t1:w.get 1=some (.pointer (some ⟨hp.nx,0,none⟩)):=by rw[J 1 (by decide),ab 1 (by decide)];exact q1
 have t2:w.get 2=some (.pointer (some ⟨hp.nx+1,0,none⟩)):=by rw[J 2 (by decide),ab 2 (by decide)];exact q2
 have gb:k.m.get hp.nx=some (.cells (fill .e 0 ws) 6 tN 6):=(g2 _ (by omega)).trans P;have gc:k.m.get (hp.nx+1)=some (.cells zCB 8 tC 8):=(g2 _ (by omega)).trans ae;have go:∀b,b<hp.nx->k.m.get b=hp.m.get b:=fun b hb=>(g2 b (by omega)).trans (g1 b hb);have O:∀(tm':Ao) (hp':Hp) (cs:Ao) (vs:Af) (r:Int),XK PR ov none 26 (R5 PR cF) (fill .e 0 [.agg ws.toArray]) hp .ret tm' hp'->tm'.get 2=some (.pointer (some ⟨hp.nx+1,0,none⟩))->tm'.get 3=some (i64 r)->hp'.m.get (hp.nx+1)=some (.cells (fill cs 0 vs) 8 tC 8)->vs.length=8->(∀b,b<hp.nx->hp'.m.get b=hp.m.get b)->
   ∃l,W8 PR ov cF [.agg ws.toArray] hp (.tuple #[.agg vs.toArray,i64 r]) l/\hp.nx<=l.nx/\ ∀j,j<hp.nx->l.m.get j=hp.m.get j:=fun tm' hp' cs vs r X u2 u3 ug v8 uo=>by
  have hl:n9 (fill cs 0 vs) 0 8=some vs:=by have:=C0 (c:=fill cs 0 vs) (vs:=vs) (o:=0) (fun q hq=>by rw[l8,Rh ⟨by omega,by omega⟩];congr 1;omega);rwa[v8]at this
  obtain⟨l,r1,r2,r3,r4⟩:=pO (ov:=ov) (args:=[.agg ws.toArray]) (c:=R5 PR cF) c_fn (by kernel_rfl) ak (show XK PR ov none (1+(Go.Proofs.Tryz.f23.ntmps-1)) _ _ _ _ _ _ from(show 1+(Go.Proofs.Tryz.f23.ntmps-1)=26 from by kernel_rfl)▸X) (.inr rfl) (vs:=[.agg vs.toArray,i64 r]) (fun h2 ac=>by
   have e:Go.Proofs.Tryz.f23.results.toList=[.cell 2 tC,.tmp 3]:=by kernel_rfl
   rw[e];have g:h2.m.get (hp.nx+1)=some (.cells (fill cs 0 vs) 8 tC 8):=by rw[ac _ (by rw[ug];exact fun h=>by cases h)];exact ug
   have:=ld_C (m:=h2.m) (nx:=h2.nx) (o:=0) g (by omega) hl;simp only[J4,eN,u2,u3,RB];rw[show D5 PR h2 tC (.pointer (some ⟨hp.nx+1,0,none⟩))=some (.agg vs.toArray)from this])
  refine⟨l,r1,by rw[r2];exact X.kp.nx,fun j hj=>?_⟩;by_cases H:hp.m.get j=some .dfr;rw[r4.dfr j hj H,H];rw[r3 j (by rw[uo j hj];exact H),uo j hj]
 by_cases v:z5 s
 ·have hn:=nV v;have au:=v.2.1;have aq:=V3 s;rw[Su (by omega)]at D;have ap:=GO s v.1;obtain⟨t,l,X4,K,q5,M⟩:=c_4 (ov:=ov) (ar:=none) (tm:=w) (hp:=k) (Q:=fun t h4=>(∀x,x<5->t.get x=w.get x)/\t.get 5=some (.pointer (some ⟨k.nx,0,none⟩))/\h4=⟨(k.m.set k.nx (some (.cells zW 1 tW 1))).set k.nx (some (.cells (fill zW 0 [i64 0]) 1 tW 1)),k.nx+1⟩) fun t a b=>⟨a,b,rfl⟩
  have g4:∀b,b<k.nx->l.m.get b=k.m.get b:=fun b hb=>by rw[M];show((k.m.set k.nx _).set k.nx _).get b=_;rw[TQ,Re (by omega),TQ,Re (by omega)]
  have R:l.m.get k.nx=some (.cells (fill zW 0 [i64 0]) 1 tW 1):=by rw[M];show((k.m.set k.nx _).set k.nx _).get k.nx=_;rw[TQ,Rh rfl]
  have ax:l.nx=k.nx+1:=by rw[M]
  obtain⟨Y,XG,ay,ah,g5⟩:=GK (ov:=ov) (hp:=l) V h6;have an:I8 l Y:=⟨by omega,fun b hb h=>by rw[g5 b hb];exact h⟩
  obtain⟨u,i,X5,L,ao,e5⟩:=c_5 (ov:=ov) (ar:=none) (tm:=t) (Q:=fun u h5=>(∀x,x<6->u.get x=t.get x)/\u.get 13=some (.func (.func aF) #[] #[.pointer (some ⟨l.nx,0,none⟩)])/\h5=Y) (by rw[K 1 (by decide)];exact t1) (by rw[g4 _ (by omega)];exact gb) W XG an fun u a b=>⟨a,b,rfl⟩
  subst e5;have ad:u.get 5=some (.pointer (some ⟨k.nx,0,none⟩)):=by rw[L 5 (by decide)];exact q5
  let lp:Blk:= .loop .ready none 26 u #[14] cR6 cBo i.nx
  let p:Hp:=⟨(i.m.set i.nx (some .dfr)).set (i.nx+1) (some lp),i.nx+2⟩
  have g6:∀b,b<i.nx->p.m.get b=i.m.get b:=fun b hb=>by show((i.m.set i.nx _).set (i.nx+1) _).get b=_;rw[TQ,Re (by omega),TQ,Re (by omega)]
  have ai:p.m.get i.nx=some .dfr:=by show((i.m.set i.nx _).set (i.nx+1) _).get i.nx=_;rw[TQ,Re (by omega),TQ,Rh rfl]
  have U:p.m.get (i.nx+1)=some lp:=by show((i.m.set i.nx _).set (i.nx+1) _).get (i.nx+1)=_;rw[TQ,Rh rfl]
  have az:p.nx=i.nx+2:=rfl;have S:∀b,b<k.nx->p.m.get b=k.m.get b:=fun b hb=>by rw[g6 b (by omega),g5 b (by omega),g4 b hb]
  have RI:=Ik (ov:=ov) (F:=F) (s:=s) (j:=i.nx+1) (b5:=k.nx) (db:=i.nx) (hp2:=p) (tms:=u) (by omega) U (by omega) (by omega) (by omega) ad;have S6:St (fun b=>b=k.nx) p.nx p.m.get (OM s k.nx) 0 p:=⟨Ri _,fun _ _ _=>rfl,fill zW 0 [i64 0],by rw[g6 _ (by omega),g5 _ (by omega)];exact R,by rw[l8,Rh ⟨by omega,by simp⟩];rfl⟩
  obtain⟨A,XA,S7,K7⟩:=JW al V s.size s (Ri _) (by omega) (i.nx+1) p.nx 0 l.nx _ p.m.get _ _ F p (fill .e 0 ws) RI S6 (by rw[g6 _ (by omega)];exact ah) (by omega) (fun e=>by omega) (by rw[Cl];exact h)
   (fun x z hx=>by obtain⟨a1,a2⟩:=hF x z hx;exact⟨by rw[S x (by omega),go x a2];exact a1,by omega,fun e=>by omega⟩)
   (fun q m us hq hu hm=>⟨m,us,by rw[Rr];exact hq,rfl,hu,hm⟩)
  have n7:=S7.nx;have o7:∀b,b<p.nx->b≠k.nx->A.m.get b=p.m.get b:=fun b hb hw=>S7.old b hb hw;have XR:XK PR ov none 26 (.rangeFunc (.tmp 13) #[14] cR6 cBo) u i .normal u ⟨A.m.set (i.nx+1) none,A.nx⟩:=XK.range (evt ao) a_fn a_ok XA ((o7 _ (by omega) (by omega)).trans ai) ((o7 _ (by omega) (by omega)).trans U) (by omega) fun b hb H=>by
   have hw:b≠k.nx:=fun e=>by rw[e,g5 _ (by omega),R]at H;cases H
   rw[o7 b (by omega) hw,g6 b hb];exact H
  have N:=S7.j;rw[Rr]at N;obtain⟨cw,hw,hg⟩:=N;let G:Hp:=⟨A.m.set (i.nx+1) none,A.nx⟩
  have g8:∀b,b≠i.nx+1->G.m.get b=A.m.get b:=fun b hb=>by show(A.m.set (i.nx+1) none).get b=_;rw[TQ,Re hb]
  have o8:∀b,b<k.nx->G.m.get b=k.m.get b:=fun b hb=>by rw[g8 b (by omega),o7 b (by omega) (by omega),S b hb]
  rw[Ki]at hg;obtain⟨C,Z,X8,u2,u3,e9⟩:=c_8 (ov:=ov) (ar:=none) (tm:=u) (hp:=G) (b2:=hp.nx+1) (b5:=k.nx) (n:=n) (Q:=fun C h9=>C.get 2=some (.pointer (some ⟨hp.nx+1,0,none⟩))/\C.get 3=some (i64 0)/\h9=⟨G.m.set (hp.nx+1) (some (.cells (fill zCB 0 [i64 n,i64 n,i64 0,i64 (n-1),i64 0,i64 0,i64 (qU s),i64 0]) 8 tC 8)),G.nx⟩)
   (by rw[L 2 (by decide),K 2 (by decide)];exact t2) (by rw[L 4 (by decide),K 4 (by decide),J 4 (by decide)];exact q4) ad (by rw[o8 _ (by omega)];exact gc) (by rw[g8 _ (by omega)];exact hw) hg (by omega) (by omega) fun C a b=>⟨a,b,rfl⟩
  have X:XK PR ov none 26 (R5 PR cF) (fill .e 0 [.agg ws.toArray]) hp .ret C Z:=by rw[Kn];exact X0.seq (X1.seq (XK.seq (X2.seq (XK.condF (evt D) .skip)) (X4.seq (XK.seq (X5.seq (XK.block XR)) (X8.seq .ret)))))
  obtain⟨I,z1,z2,z3⟩:=O C Z zCB _ 0 X u2 u3 (by rw[e9];show(G.m.set (hp.nx+1) _).get (hp.nx+1)=_;rw[TQ,Rh rfl]) rfl fun b hb=>by rw[e9];show(G.m.set (hp.nx+1) _).get b=_;rw[TQ,Re (by omega),o8 b (by omega),go b hb]
  refine⟨I,n,n,0,n-1,0,0,qU s,0,0,z1,z2,z3,fun _=>⟨?_,rfl⟩,fun nv=>absurd v nv⟩;unfold ON;rw[hn]
 ·have hn:=nN v;rw[decide_eq_true hn]at D;obtain⟨t,l,X3,u2,u3,M⟩:=c_3 (ov:=ov) (ar:=none) (tm:=w) (hp:=k) (Q:=fun t h4=>t.get 2=some (.pointer (some ⟨hp.nx+1,0,none⟩))/\t.get 3=some (i64 14)/\h4=⟨k.m.set (hp.nx+1) (some (.cells (fill zCB 0 [i64 0,i64 0,i64 0,i64 0,i64 0,i64 0,i64 0,i64 0]) 8 tC 8)),k.nx⟩) t2 gc fun t a b=>⟨a,b,rfl⟩
  have X:XK PR ov none 26 (R5 PR cF) (fill .e 0 [.agg ws.toArray]) hp .ret t l:=by rw[Kn];exact X0.seq (X1.seq (XK.seqX (X2.seq (XK.condT (evt D) (X3.seq .ret))) (fun h=>by cases h)))
  obtain⟨I,z1,z2,z3⟩:=O t l zCB _ 14 X u2 u3 (by rw[M];show(k.m.set (hp.nx+1) _).get (hp.nx+1)=_;rw[TQ,Rh rfl]) rfl fun b hb=>by rw[M];show(k.m.set (hp.nx+1) _).get b=_;rw[TQ,Re (by omega),go b hb]
  exact⟨I,0,0,0,0,0,0,0,0,14,z1,z2,z3,fun hv=>absurd hv v,fun _=>⟨rfl,rfl⟩⟩
