/- Apply, in the executor: what it answers (DiffsApply).
  Conditions: none. -/
import Derived.Test.YtcjhhnoaoldcmaaGreatST
import Derived.Test.YtcjhhnoaoldcmaaGreatT8
set_option linter.all false
set_option maxRecDepth 10000
noncomputable section
namespace Go.D
open Go Go.Xe Go.Sx Go.RowKit
open Go.C36 (row)
section
variable {ov :Aa}{hp0 hp:Hp}{tm:Ao}{F:FB}{m t:a8}{l:List Stp}{v:Aw}{b4 b7 k:Nat}{cs:Ao}{S:Ah}
def yo (cb:oF ov)(n:Go.Xe.isT (ov yyF)=false)(h:Go.Xe.isT (ov fF)=false)(hF:FH F hp0)(o:PV PR F (.sl tSp) v (.lst (l.map Stp.row)))(hl:l.length<=40)(b:∀s∈l,s.p.length<=10):∀(d k:Nat) (t:a8) (cs:Ao) (S:Ah) (tm:Ao) (hp:Hp),k+d=l.length->Ip hp0 m l v b4 b7 k t cs S tm hp->(∃t' cs' S' tm' hp',XK PR ov 45 (.loop zL) tm hp (.exit 0) tm' hp'/\Ip hp0 m l v b4 b7 l.length t' cs' S' tm' hp')\/ ∃e tm' hp',y8 m l= .error e/\XK PR ov 45 (.loop zL) tm hp .ret tm' hp'/\Ap hp0 (.error e) tm' hp'
 |0,k,t,cs,S,tm,hp,hk,I=>by
  have e:k=l.length:=by omega
  subst e;obtain⟨tm1,hp1,g,rfl,f,a⟩:=Z_R8 (Q:=fun tm1 hp1=>hp1=hp/\(∀x,x≠27->tm1.get x=tm.get x)/\tm1.get 27=some (.bool (decide ((l.length:Int)<(l.length:Int))))) I.t25 I.t26 fun tm1 f a=>⟨rfl,f,a⟩
  rw[Ll (by omega)]at a;exact .inl ⟨t,cs,S,tm1,hp1,.loopX (g.seq (.seqX (.condF (j9 a) .exit) (by simp))) (by simp),⟨(f 4 (by omega)).trans I.t4,(f 7 (by omega)).trans I.t7,(f 24 (by omega)).trans I.t24,(f 25 (by omega)).trans I.t25,(f 26 (by omega)).trans I.t26,I.nw,I.b4l,I.b7l,I.b47,I.h4,I.h7,I.tb,I.nd,I.n4,I.n7,I.lt,I.st,I.ni,I.kl⟩⟩
 |d+1,k,t,cs,S,tm,hp,hk,I=>by
  rcases CD cb n h hF o hl b I (by omega)with⟨t',cs',S',tm1,hp1,g,q⟩| ⟨e,he,tm1,hp1,g,a1⟩
  ·rcases yo cb n h hF o hl b d (k+1) t' cs' S' tm1 hp1 (by omega) q with⟨t2,i,S2,c,hp2,j,r⟩| ⟨e,c,hp2,he,j,a2⟩
   ·exact .inl ⟨t2,i,S2,c,hp2,g.loopN j,r⟩
   ·exact .inr ⟨e,c,hp2,he,g.loopN j,a2⟩
  ·exact .inr ⟨e,tm1,hp1,he,g.loopX (by simp),a1⟩
variable {vs:Af}
theorem Gk (cb:oF ov)(hg:Go.Xe.isT (ov yyF)=false)(aa:Go.Xe.isT (ov fF)=false)(hF:FH F hp0)(I:vs.length=6)(hR:RN F m (fun q=>vs[q]?))(hV:z7 m)(hv:PV PR F (.sl tSp) v (.lst (l.map Stp.row)))(hl:l.length<=40)(L:∀s∈l,s.p.length<=10):YR ov 45 z0 (fill .e 0 [.agg vs.toArray,v]) hp0 fun tm' hp'=>Ap hp0 (H5 m l) tm' hp':=by
 obtain⟨qv,cv,W⟩:=N5 hv;rw[Kf]at W;refine .seq (Z_R0 rfl I fun tm1 hp1 ai O hb2 hb4 x1 h2 h4=>?_);have n1:New hp0 hp1:=⟨by omega,O⟩
 obtain⟨hp2,e,r1,P,r3,r4⟩:=dL cb.chk (D8 hF n1) I hR;have he:e=0:=r3.2 hV;have aj:=P.nx;refine .seq (.seq ((Z_R1 h2 hb2 (bZ I) r1 P.keeps fun ak x2 ae=>.condF (j9 (by grind)) (.skip ?_)).mono fun _ _ _ k=>.seq k));refine .seq (.seq (Z_R4 (by rw[x2 1 (by omega),x1 1 (by omega),d7,<-W];rfl) fun al x3 ah=>.condF (j9 (by grind)) (.skip ?_)));have K:hp2.m.get hp0.nx=some (.cells (fill .e 0 vs) 6 tN 6):=(P.old _ (by omega)).trans hb2;have n2:=n1.trans P;obtain⟨a,us,S,y1,y2,y3,y4,y5,Y⟩:=cb.cpy m hV hp2 vs F I hR (D8 hF n2);have ao:=y2.nx;refine .seq (Z_R6 (by grind) K (bZ I) y1 y2.keeps y3 (y4.one y3) fun B x4 h7=>?_);have n3:=n2.trans y2;have R:∀x,x<6->B.get x=tm1.get x:=fun x hx=>by rw[x4 x (by omega),x3 x (by omega),x2 x (by omega)]
 have I0:∀c,(∀x,x<8->c.get x=B.get x)->c.get 24=some (.slice qv l.length cv)->c.get 25=some (.int .i64 l.length)->c.get 26=some (.int .i64 0)->Ip hp0 m l v (hp0.nx+1) a.nx 0 m (fill zB 0 us) S c ⟨(a.m.set a.nx (some (.cells zB 6 tN 6))).set a.nx (some (.cells (fill zB 0 us) 6 tN 6)),a.nx+1⟩:=by
  intro c E f g i;have gs:∀j,j≠a.nx->((a.m.set a.nx (some (.cells zB 6 tN 6))).set a.nx (some (.cells (fill zB 0 us) 6 tN 6))).get j=a.m.get j:=fun j hj=>by rw[Mw,Kg hj,Mw,Kg hj]
  refine⟨by rw[E 4 (by omega),R 4 (by omega)];exact h4,by rw[E 7 (by omega)];exact h7,by rw[f,W],g,i,⟨by show hp0.nx<=a.nx+1;have:=n3.nx;omega,fun j hj=>?_⟩,⟨by omega,by show hp0.nx+1<a.nx+1;omega⟩,⟨by omega,KW _⟩,by omega,?_,?_,?_,y5,fun h=>by have:=(Y _ h).1;omega,fun h=>by have:=(Y _ h).2;omega,fun q hq=>⟨by have:=(Y q hq).1;omega,Nat.lt_succ_of_lt (Y q hq).2⟩,rfl,hV.nice,LF _⟩
  ·show(_:T Blk).get j=_;rw[gs j (by omega),n3.old j hj]
  ·show(_:T Blk).get (hp0.nx+1)=_;rw[gs _ (by omega),y2.old _ (by omega),P.old _ (by omega)];exact hb4
  ·show(_:T Blk).get a.nx=_;rw[Mw,Ki rfl]
  ·refine(y4.frame fun j hj=>gs j (by grind)).win fun q hq=>?_;unfold at6;rw[f6,Ki (by omega)];congr 1;omega
 obtain⟨c,M,V,rfl,E,f,g,i⟩:=Z_R7 (Q:=fun c M=>M=⟨(a.m.set a.nx (some (.cells zB 6 tN 6))).set a.nx (some (.cells (fill zB 0 us) 6 tN 6)),a.nx+1⟩/\(∀x,x<8->c.get x=B.get x)/\c.get 24=some (.slice qv l.length cv)/\c.get 25=some (.int .i64 l.length)/\c.get 26=some (.int .i64 0)) (by rw[R 1 (by omega),x1 1 (by omega),d7,<-W];rfl) fun c E f g i=>⟨rfl,E,f,g,i⟩
 rcases yo cb hg aa hF hv hl L l.length 0 m (fill zB 0 us) S c _ (by omega) (I0 c E f g i)with⟨t',cs',S',C,d,x6,I6⟩| ⟨e',C,d,he',x6,a6⟩
 ·have N:y8 m l= .ok t':=by have:=I6.st;rwa[List.take_length]at this
  refine .seq (.seq ⟨c,_,V,C,d,x6.blockX,?_⟩);obtain⟨ws,w1,w2,w3⟩:=HD I6.tb;have J:FH (fun q=>if q∈S' then d.m.get q else F q) d:=fun q b h=>by
   have h:(if q∈S' then d.m.get q else F q)=some b:=h;by_cases hq:q∈S'
   ·rw[Ki hq]at h;exact⟨h,(I6.lt q hq).2⟩
   ·rw[Kg hq]at h;exact D8 hF I6.nw q b h
  have rn:RN (fun q=>if q∈S' then d.m.get q else F q) t' (fun q=>ws[q]?):=w3.read fun j hj=>by rw[Ki hj]
  obtain⟨ab,e7,c1,o,c3,c4⟩:=dL cb.chk J w2 rn;have ad:=o.nx;have b4l:=I6.b4l;by_cases u:e7=0
  ·have r:=c3.1 u;have G:H5 m l= .ok t':=oZ N r;rw[G];refine .seq (.seq ((Ih I6.t7 I6.h7 w1 c1 o.keeps fun D X H w=>.condF (j9 (by rw[w,decide_eq_true u];rfl)) (.skip ?_)).mono fun _ _ _ k=>.seq k));obtain⟨A,U,S8,z1,z2,z3,z4,z5,z6⟩:=cb.cpy t' r ab ws _ w2 rn (D8 J o);have ap:=z2.nx;have n:D.get 4=some (.pointer (some ⟨hp0.nx+1,0,none⟩)):=(X 4 (by omega)).trans I6.t4;refine Z_R17 ((X 7 (by omega)).trans I6.t7) ((o.old _ I6.b7l.2).trans I6.h7) w1 z1 z2.keeps n ((z2.old _ (by omega)).trans ((o.old _ b4l.2).trans I6.h4)) z3 (z4.one z3) fun ac y z=>?_;refine⟨⟨hp0.nx+1,fill zB 0 U,U,S8,t',0,y.trans n,z,by rw[Mw,Ki rfl],r0 z3,z3,z4.frame fun j hj=>?_,fun q hq=>⟨by have:=(z6 q hq).1;have:=I6.nw.nx;omega,(z6 q hq).2⟩,rfl,rfl⟩,⟨by show hp0.nx<=A.nx;omega,fun j hj=>?_⟩⟩
   ·show(A.m.set _ _).get j=_;rw[Mw,Kg (by have:=(z6 j hj).1;omega)]
   ·show(A.m.set _ _).get j=_;rw[Mw,Kg (by omega),z2.old j (by omega),o.old j (by omega),I6.nw.old j hj]
  ·have r:¬z7 t':=fun h=>u (c3.2 h);have G:H5 m l= .error 14:=lZ N r;rw[G];have Z:e7=14:=c4.resolve_left u;subst Z;refine .seqX (.seq ((Ih I6.t7 I6.h7 w1 c1 o.keeps fun D X H w=>.condT (j9 (by rw[w];rfl)) ?_).mono fun _ _ _ k=>.seq k));have n:D.get 4=some (.pointer (some ⟨hp0.nx+1,0,none⟩)):=(X 4 (by omega)).trans I6.t4;exact Z_R16 H n ((o.old _ b4l.2).trans I6.h4) fun ac y z=>Ap.err (I6.nw.trans o) (by omega) (y.trans n) z
 ·have G:H5 m l= .error e':=by unfold H5;rw[he']
  rw[G];refine .seqX (.seq ⟨c,_,V,YR.block ⟨C,d,x6,a6⟩⟩)
theorem CG (cb:oF ov)(ha:Go.Xe.isT (ov apF)=false)(C:Go.Xe.isT (ov yyF)=false)(c:Go.Xe.isT (ov fF)=false)(hF:FH F hp0)(z:vs.length=6)(A:RN F m (fun q=>vs[q]?))(B:z7 m)(D:PV PR F (.sl tSp) v (.lst (l.map Stp.row)))(hl:l.length<=40)(a:∀s∈l,s.p.length<=10):∃(hp':Hp) (ws:Af) (F':FB) (x:a8) (e:Int),A4 PR ov apF [.agg vs.toArray,v] hp0 (.tuple #[.agg ws.toArray,.int .i64 e]) hp'/\AF F F' hp0 hp'/\ws.length=6/\RN F' x (fun q=>ws[q]?)/\match H5 m l with
   | .ok t=>e=0/\x=t| .error n=>e=n/\x=oJ:=by
 obtain⟨tm',hp1,I,⟨⟨b4,d,ws,S2,x,e,t4,t5,gr,f,H,tb,lt,res⟩,nw⟩⟩:=Gk cb C c hF z A B D hl a;obtain⟨hp2,E,G,u,w⟩:=bK (args:=[.agg vs.toArray,v]) ap_fn rfl ha ((show 2+(Go.Proofs.Tryz.f11.ntmps-2)=45 from by kernel_rfl)▸I) (.inr rfl) (fun h2 same=>by
  have y:Go.Proofs.Tryz.f11.results.toList=[.cell 4 tN,.tmp 5]:=rfl;rw[y];have g:h2.m.get b4=some (.cells d 6 tN 6):=by grind
  have:=aT (nx:=h2.nx) g rfl (by omega) f;simp only[C8,P6,t4,t5,KC];rw[show B0 PR h2 tN (.pointer (some ⟨b4,0,none⟩))=some (.agg ws.toArray)from this])
 have r:=nw.leave G u w;have o:=tb.leave u;refine⟨hp2,ws,fun q=>if q∈S2 then hp2.m.get q else F q,x,e,E,⟨w,fun i b h=>?_,fun q b h=>?_,fun i b h=>?_,r.old⟩,H,o.read fun j hj=>by grind,res⟩
 ·show(if i∈S2 then _ else _)=_;rwa[Kg (fun h'=>by have:=(lt i h').1;have:=(hF i b h).2;omega)]
 ·have h:=h;by_cases hq:q∈S2
  ·grind
  ·rw[Kg hq]at h;exact D8 hF r q b h
 ·grind
end
end Go.D
noncomputable section
namespace Go.D
open Go Go.Xe Go.Sx
open Go.C36 (row)
theorem uq {τ:Tau}{F:FB}{t:a8}{v:Aw}{a0 a1 a2 a3 a4 a5:E}(ht:isT t (a0.toI U0) (a1.den U0).toStr (a2.den U0).toStr (a3.toR U0) (a4.den U0).toStr (a5.toR U0))(h:VD PR U0 τ F (.agg [.int .u8 a0,.str a1,.str a2,.lst tAt a3 false,.str a4,.lst tN a5 false]) v):∃ws:Af,v= .agg ws.toArray/\ws.length=6/\RN F t (fun q=>ws[q]?):=by
 obtain⟨e0,b,c,n,d,o⟩:=ht;cases h with
 |agg l xs h1 h2=>
 obtain⟨x0,p,r,k,u,m,rfl⟩:=ub (h1.symm);have w0:=h2 0 _ _ rfl rfl;have e:=h2 1 _ _ rfl rfl;have f:=h2 2 _ _ rfl rfl;have g:=h2 3 _ _ rfl rfl;have i:=h2 4 _ _ rfl rfl;have j:=h2 5 _ _ rfl rfl;refine⟨_,rfl,rfl,⟨?_,?_,?_,⟨k,rfl,?_⟩,?_⟩,m,rfl,?_⟩
 ·cases w0;rw[<-e0];rfl
 ·cases e;rw[<-b];rfl
 ·cases f;rw[<-c];rfl
 ·cases g with
  |lst _ _ _ _ a _=>grind
 ·cases i;rw[<-d];rfl
 ·cases j with
  |lst _ _ _ _ a _=>grind
section
variable {τ :Tau}{F:FB}{s:SS}{bl:Ah}
def yZ {k:IntKind}{e:E}:LOK PR U0 bl τ F s (.g (.int k)) (.int k e) (some e,none):=by refine⟨fun so h=>⟨e,rfl⟩,fun h=>(by cases h),fun _=>rfl,fun u a τ2 num nb d _ hd _=>?_,fun h=>absurd rfl h⟩;have h:=hd e .i rfl rfl;cases a;rw[h];exact .int _ _
def rr {e:E}:LOK PR U0 bl τ F s (.g .str) (.str e) (some e,none):=by refine⟨fun so h=>⟨e,rfl⟩,fun h=>(by cases h),fun _=>rfl,fun u a τ2 num nb d _ hd _=>?_,fun h=>absurd rfl h⟩;have h:=hd e .s rfl rfl;cases a;rw[h];exact .str _
theorem za {t:Ay}{e:E}:LOK PR U0 bl τ F s (.g (.lst t)) (.lst t e false) (some e,none):=by
 refine⟨fun so h=>⟨e,rfl⟩,fun h=>(by cases h),fun _=>rfl,fun u b τ2 num nb d _ hd _=>?_,fun h=>absurd rfl h⟩;have h:e.toR U0=d.toR U0:=hd e .l rfl rfl;cases b with
 |lst _ _ _ _ a _=>exact .lst _ _ _ _ (by grind) (fun h=>by grind)
end
theorem len7 {α:Type}{l:List α}(h:l.length=7):∃a b c d e f g,l=[a,b,c,d,e,f,g]:=by
 match l,h with
 | [a,b,c,d,e,f,g],_=>grind
variable {ov :Aa}
theorem zA {c:Con}{X:Af->Hp->Aw->Hp->Prop}{es:Av}{τ:Tau}{F F':FB}{hp hp':Hp}{xs:Af}{k:Nat}(z:gst c (E2 U0 (j5 c.inL) 0 es) (j5 c.inL).length=⟨[],0,[],k,[]⟩)(u:c.res=[nV,iV])(m:c.outL=Q6 [nV,iV])(g:c.post=[])(l:c.blks=[])(j:I9 c.inL=0)(hs:SD PR U0 τ F ⟨[],0,[],k,[]⟩ hp){ws:Af}{r:a8}{e:Int}(L:X xs hp (.tuple #[.agg ws.toArray,.int .i64 e]) hp')(cm:AF F F' hp hp')(N:ws.length=6)(M:RN F' r (fun q=>ws[q]?))(n:c.rel (j6 U0 (j5 c.inL) es) [.int r.k,.str r.t,.str r.y,.lst (r.a.map Att.row),.str r.x,.lst (rows r.c),.int e]):RX PR U0 c X es τ F hp xs:=by
 have A:∀b,τ b=none:=fun b=>hs.new b (LF _);obtain⟨x0,S,T,O,U,P,rfl⟩:=ub N;have B:=M;obtain⟨⟨h0,h1,h2,⟨va,h3,v⟩,h4⟩,vc,h5,w⟩:=B;cases h0;cases h1;cases h2;cases h3;cases h4;cases h5;unfold RX;rw[z,u,m,g,l,j];refine⟨_,τ,F',⟨[(0,none)],1,[],k,[]⟩,hp',[.int .u8 (.dat 0 (.int r.k)),.str (.dat 1 (.str r.t)),.str (.dat 2 (.str r.y)),.lst tAt (.dat 3 (.lst (r.a.map Att.row))) false,.str (.dat 4 (.str r.x)),.lst tN (.dat 5 (.lst (rows r.c))) false,.int .i64 (.dat 6 (.int e))],[.int .u8 r.k,.string ⟨r.t.toArray⟩,.string ⟨r.y.toArray⟩,O,.string ⟨r.x.toArray⟩,P,.int .i64 e],[],[.dat 0 (.int r.k),.dat 1 (.str r.t),.dat 2 (.str r.y),.dat 3 (.lst (r.a.map Att.row)),.dat 4 (.str r.x),.dat 5 (.lst (rows r.c)),.dat 6 (.int e)],[],[],L,?_,?_,?_,rfl,?_,rfl,?_,fun b h=>?_,rfl,fun b h=>?_,fun b h=>?_,rfl,rfl,n⟩
 ·have d:∀b x,(⟨[],0,[],k,[]⟩:SS).get b=some x->False:=fun b x h=>by simp[SS.get,lk]at h
  exact⟨fun b p h=>h,cm.fle,cm.kp.nx,LF _,fun b h=>absurd h (Nat.not_lt_zero _),fun b x h hb=>absurd hb (Nat.not_lt_zero _),⟨[(0,none)],rfl,fun i hi _=>cm.same i hi,fun b i o _ h=>(by grind),fun i y hi h=>.inl ((cm.fz i y h).elim id fun h=>by omega),fun h=>absurd rfl (h (0,none) (by simp))⟩,⟨[],rfl⟩,⟨[(0,none)],rfl,fun b _ _ _ _ _ _ _ h=>(d b _ h).elim⟩⟩
 ·have d:∀b x,(⟨[(0,none)],1,[],k,[]⟩:SS).get b=some x->False:=fun b x h=>by simp only[SS.get,lk]at h;grind
  exact⟨fun b x h=>(d b x h).elim,fun b _ x _ _ _ _ _ h=>(d b x h).elim,fun q b h=>(cm.fh q b h).1,fun b i o h=>(by grind),fun q b h=>(cm.fh q b h).2,fun b _=>A b,fun c t h=>by grind,fun r h=>by grind⟩
 ·rw[Lz];exact .cons (.int _ _) (.cons (.str _) (.cons (.str _) (.cons (.lst _ _ _ _ v (fun h=>by grind)) (.cons (.str _) (.cons (.lst _ _ _ _ w (fun h=>by grind)) (.cons (.int _ _) MC))))))
 ·intro τ2 Q R rest f;obtain⟨C,D,G,H,I,J,K,rfl⟩:=len7 (f.1);refine .tup [.agg [C,D,G,H,I,J],K] [_,_] rfl fun i a x ha hx=>?_
  match i,ha,hx with
  |0,ha,hx=>
   cases ha;cases hx;refine .agg _ _ rfl fun i a x ha hx=>?_
   match i,ha,hx with
   |0,ha,hx=>exact f.2 0 a x ha hx|1,ha,hx=>exact f.2 1 a x ha hx|2,ha,hx=>exact f.2 2 a x ha hx|3,ha,hx=>exact f.2 3 a x ha hx|4,ha,hx=>exact f.2 4 a x ha hx|5,ha,hx=>exact f.2 5 a x ha hx|i+6,ha,hx=>grind
  |1,ha,hx=>exact f.2 6 a x ha hx|i+2,ha,hx=>simp at hx
 ·exact⟨_,_,[],rfl,rfl,yZ,_,_,[],rfl,rfl,rr,_,_,[],rfl,rfl,rr,_,_,[],rfl,rfl,za,_,_,[],rfl,rfl,rr,_,_,[],rfl,rfl,za,_,_,[],rfl,rfl,yZ,rfl,rfl⟩
 ·exact absurd h (by show b∉([]:Ah);simp)
 ·simp at h
 ·grind
theorem IW (cb:oF ov)(ha:Go.Xe.isT (ov apF)=false)(x:Go.Xe.isT (ov yyF)=false)(f:Go.Xe.isT (ov fF)=false):g8 PR U0 ov cApy apF:=by
 intro es a d τ F hp xs hs hx;obtain⟨a0,a1,a2,a3,a4,a5,I,rfl⟩:=len7 (a);obtain⟨⟨m,hm,w⟩,l,hl,c⟩:=d;have hF:FH F hp:=fun q b h=>⟨hs.frz q b h,hs.flt q b h⟩
 obtain⟨J,G,rfl,w0,hx⟩:=VDL.uncons hx;obtain⟨C,H,rfl,D,hx⟩:=VDL.uncons hx;have k:=JR hx.1.symm;subst k;obtain⟨vs,rfl,u,v⟩:=uq (a0:= .dat 0 (.int (a0.toI U0))) (a1:= .dat 1 (.str (a1.den U0).toStr)) (a2:= .dat 2 (.str (a2.den U0).toStr)) (a3:= .dat 3 (.lst (a3.toR U0))) (a4:= .dat 4 (.str (a4.den U0).toStr)) (a5:= .dat 5 (.lst (a5.toR U0))) hm w0;have y:PV PR F (.sl tSp) C (.lst (l.map Stp.row)):=by
  cases D with
  |lst _ _ _ _ j _=>rw[<-hl.1];exact j
 obtain⟨hp',ws,F',r,e,A,cm,E,B,res⟩:=CG cb ha x f hF u v w y hl.2.1 c;refine zA rfl rfl rfl rfl rfl rfl hs A cm E B ?_;intro z l' i g;have o:=mD hm i;have p:l'=l:=by have:=g.1.symm.trans hl.1;exact nK this
 subst o;subst p;cases hr:H5 z l' with
 |ok t=>rw[hr]at res;obtain⟨rfl,rfl⟩:=res;exact⟨⟨rfl,rfl,rfl,rfl,rfl,rfl,rfl⟩,fun n h=>by grind⟩
 |error n=>rw[hr]at res;obtain⟨rfl,rfl⟩:=res;exact⟨rfl,fun n' h=>⟨rfl,rfl,rfl,rfl,rfl,rfl⟩⟩
end Go.D
