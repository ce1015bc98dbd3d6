/- The conditions of contracts, as the engine's printer has written them, and that the kernel comes to the same.
  Conditions: none. -/
import Derived.Test.YtoegfalhkackeaaGreatN8
set_option maxRecDepth 100000
set_option linter.all false
noncomputable section
namespace Go.D
open Go Go.Xe Go.Sx
def vcRsp (n:Nat):Prop:=
 ∀d f l c g a,(pV [.int d,.str f,.str l,.lst c,.str g,.lst a]/\Eg [.int d,.str f,.str l,.lst c,.str g,.lst a]<n+1)->Cg nR bM [.int d,.str f,.str l,.lst c,.str g,.lst a] (fun R=>∀w,R [.int w]->((w=0->Nd (Bu [.int d,.str f,.str g,.lst c] [.int 0,.int d,.str f,.str [],.lst [],.str g,.lst []]) (∀h m o p i q k,Bu [.int d,.str f,.str g,.lst c] [.int h,.int m,.str o,.str p,.lst i,.str q,.lst k]->((h<ln c->Nb h (ln c) (Ni (ln i)<|Nd (ln i+1<67108865)<|Nr (ln i)<|Nd (I64 (h+1))<|Nq (ln i+1)<|Nq (ln k)<|Nd (Bu [.int d,.str f,.str g,.lst c] [.int (h+1),.int m,.str o,.str p,.lst (i++d8 2 1 [.str (cS c h 0),.str (cS c h 1)]),.str q,.lst k])<|Nd (Ir [.int d,.str f,.str g,.lst c] [.int (h+1),.int m,.str o,.str p,.lst (i++d8 2 1 [.str (cS c h 0),.str (cS c h 1)]),.str q,.lst k]<Ir [.int d,.str f,.str g,.lst c] [.int h,.int m,.str o,.str p,.lst i,.str q,.lst k]) True))/\(¬h<ln c->Nq (ln i) (Nq (ln k)<|Nd (Bv [.int d,.str f,.str g,.lst c,.lst a] [.int 0,.int m,.str o,.str p,.lst i,.str q,.lst k])<|∀b r s t u v j,Bv [.int d,.str f,.str g,.lst c,.lst a] [.int b,.int r,.str s,.str t,.lst u,.str v,.lst j]->((b<ln a->Nb b (ln a) (Nd (pV [.int (cI a b 0),.str (cS a b 1),.str (cS a b 2),.lst (cL a b 3),.str (cS a b 4),.lst (cL a b 5)]/\Eg [.int (cI a b 0),.str (cS a b 1),.str (cS a b 2),.lst (cL a b 3),.str (cS a b 4),.lst (cL a b 5)]<n)<|∀x y z A B C,lR [.int (cI a b 0),.str (cS a b 1),.str (cS a b 2),.lst (cL a b 3),.str (cS a b 4),.lst (cL a b 5)] [.int x,.str y,.str z,.lst A,.str B,.lst C]->Ni (ln j) (Nd (ln j+1<67108865)<|Nr (ln j)<|Nd (I64 (b+1))<|Nq (ln j+1)<|Nd (Bv [.int d,.str f,.str g,.lst c,.lst a] [.int (b+1),.int r,.str s,.str t,.lst u,.str v,.lst (j++d8 6 1 [.int x,.str y,.str z,.lst A,.str B,.lst C])])<|Nd (Is [.int d,.str f,.str g,.lst c,.lst a] [.int (b+1),.int r,.str s,.str t,.lst u,.str v,.lst (j++d8 6 1 [.int x,.str y,.str z,.lst A,.str B,.lst C])]<Is [.int d,.str f,.str g,.lst c,.lst a] [.int b,.int r,.str s,.str t,.lst u,.str v,.lst j]) True)))/\(¬b<ln a->Nq (ln j) (Nd (lR [.int d,.str f,.str l,.lst c,.str g,.lst a] [.int r,.str s,.str t,.lst u,.str v,.lst j]) True))))))))/\(¬w=0->Nd (lR [.int d,.str f,.str l,.lst c,.str g,.lst a] [.int 0,.str [],.str [],.lst [],.str [],.lst []]) True)))
def vcRsp_eq (n:Nat):kq Go.Proofs.Tryz.prog (cRsp.below Eg (n+1)) Lx ((16,cRsp.below Eg n)::IW 0) (Pz 0) 16=vcRsp n:=by kernel_rfl
open Go Go.Xe Go.Sx
def Ju {l:List a9}{c:a9}(h:c∈l):c.depth<=a9.depths l:=by
 induction l with
 |nil=>cases h
 |cons a l b=>simp only[a9.depths];rcases TZ.1 h with rfl|h;omega;have:=b h;omega
def KK {s c:a9}{j:Nat}(v:w9 s)(h:s.c[j]? =some c):w9 c:=by have h1:=Q9 ((B9 s).1 v.1).2 h;have h2:=Ky (Tv h);have h3:=Ju (Tv h);have:=v.2.1;have:=v.2.2;have:=T9 s;have:=V5 s;exact⟨h1,by omega,by omega⟩
def vcRsp_ok (n:Nat):vcRsp n:=by
 rintro _ _ _ _ _ _ ⟨⟨s,⟨rfl,rfl,rfl,rfl,rfl,rfl⟩,v⟩,hn⟩;obtain⟨o,w⟩:=bB ((B9 s).1 v.1).1;refine ndi ⟨s,rfl,rfl,rfl,rfl,rfl,rfl⟩ fun e he=>⟨fun e0=>?_,fun ne=>absurd ((he s ⟨rfl,rfl,rfl,rfl,rfl,rfl⟩).1.2 v) ne⟩
 refine ndi ⟨by omega,by omega,rfl,rfl,rfl,by simp,rfl,rfl⟩ fun i k t y a x c hi=>?_;obtain⟨i0,r,rfl,rfl,rfl,rfl,rfl,rfl⟩:=hi;rw[TG]at r;refine⟨fun h=>?_,fun h=>?_⟩
 ·have h:i<(s.a.length:Int):=by simpa [ln]using h
  obtain⟨z,hz⟩:=Sx.get_at i0 h;have hl:ln ((s.a.map Att.row).take i.toNat)=i:=by simp[ln];omega
  refine ndi (by omega) (ndi (by simpa [ln]using h) (nin (ndi (by rw[hl];omega) (nrn (ndi ⟨by omega,by omega⟩ (nin (nrn (nin (nrn (ndi ⟨by omega,by rw[TG];omega,rfl,rfl,rfl,?_,rfl,rfl⟩ (ndt ?_)))))))))));rw[v7 i0 (J5 (f:=Att.row) hz)];simp only[cS,i9 hz];rfl;simp only[Ir,TG];omega
 ·have h:¬i<(s.a.length:Int):=by simpa [ln]using h
  rw[B0 (by rw[TG];omega)];refine nin (nrn (nin (nrn (ndi ⟨by omega,by omega,rfl,rfl,rfl,rfl,rfl,fun l _=>by simp[strips]⟩ fun j k t y a x c hj=>?_))));obtain⟨m,u,rfl,rfl,rfl,rfl,rfl,hc⟩:=hj;have hc:=hc s.c rfl;subst hc;rw[TG]at u;have hl:ln (rows (strips false (s.c.take j.toNat)))=j:=by simp[ln,Hd];omega
  refine⟨fun h=>?_,fun h=>nin (nrn (ndt fun s' b=>?_))⟩
  ·have h:j<(s.c.length:Int):=by simpa [ln]using h
   obtain⟨d,g⟩:=Sx.get_at m h;have q:=dP g;have hn:szRs (rows s.c)<n+1:=hn;simp only[cI,cS,cL,G5 g,t0,t1,t2,t3,t4,t5,V8,A6,T8];refine ndi (by omega) (ndi (by simpa [ln]using h) (ndi ⟨⟨d,⟨rfl,rfl,rfl,rfl,rfl,rfl⟩,KK v g⟩,by show szRs (rows d.c)<n;omega⟩ fun k' t' A a' x' c' p=>nin (ndi (by rw[hl];omega) (nrn (ndi ⟨by omega,by omega⟩ (nin (nrn (ndi ⟨by omega,by rw[TG];omega,rfl,rfl,rfl,rfl,rfl,fun l e=>?_⟩ (ndt ?_)))))))));rw[<-jF.mp e,v7 m g,vQ];have:=AW (p d ⟨rfl,rfl,rfl,rfl,rfl,rfl⟩);simp only[rows,Ui,strips,Um,List.map_nil,<-this];rfl;simp only[Is,TG];omega
  ·have h:¬j<(s.c.length:Int):=by simpa [ln]using h
   rw[B0 (by omega)];rw[u9]at b;subst b;cases s';exact⟨rfl,rfl,rfl,rfl,rfl,rfl⟩
def NE {P:Aw}{U:Ab}{τ:Tau}{F:FB}{s:SS}{hp hp':Hp}(h:SD P U τ F s hp)(hn:hp.nx<=hp'.nx)(hk:∀b,b<hp.nx->hp'.m.get b=hp.m.get b):SD P U τ F s hp':=
 ⟨fun b x hb=>by rcases h.live b x hb with⟨i,o,y,h1,h2,h3⟩|h1;exact .inl ⟨i,o,y,h1,by rw[hk i (h.lt b i o h1)];exact h2,h3⟩;exact .inr h1,h.inj,fun i b hb=>by rw[hk i (h.flt i b hb)];exact h.frz i b hb,fun b i o hb=>Uo (h.lt b i o hb) hn,fun i b hb=>Uo (h.flt i b hb) hn,h.new,h.fc,h.fz⟩
def coE (i g:Int)(S:Sx.Rows)(fr lv c0 c1 c2 c3 c4 c5 c6 c7:Int)(st N:Sx.Rows):Au:=[.dat 0 (.int i),.dat 1 (.int g),.dat 2 (.lst S),.dat 3 (.int fr),.dat 4 (.int lv),.dat 5 (.int c0),.dat 6 (.int c1),.dat 7 (.int c2),.dat 8 (.int c3),.dat 9 (.int c4),.dat 10 (.int c5),.dat 11 (.int c6),.dat 12 (.int c7),.dat 13 (.lst st),.dat 14 (.lst N)]
def lkA (j h:Int):As:=[.ptr 2 13 (.int 0) 0,.agg [.int .u32 (.int j),.int .u32 (.int h)]]
variable {i g j h fr lv c0 c1 c2 c3 c4 c5 c6 c7:Int}{S st N:Sx.Rows}
def lk_vc {good:SV->List (Nat×Bb B4)->Prop}:(kro PR U0 cLok (lkA j h) (gst cCo2 (coE i g S fr lv c0 c1 c2 c3 c4 c5 c6 c7 st N) 15)).vc U0 (fun r=>good r.1 r.2.h)=Ni (ln S) (Nr (ln S) (Nd (pI (.int j::.int h::JD S fr lv c0 c1 c2 c3 c4 c5 c6 c7 st N)) (∀(k:Int) (t:Ae) (a:Sx.Rows) (x:Ae) (b sz:Int) (pn:Bool) (pi pg:Int) (ch:Sx.Rows) (r:Int),Q5 (.int j::.int h::JD S fr lv c0 c1 c2 c3 c4 c5 c6 c7 st N) [.int k,.str t,.lst a,.str x,.int b,.int sz,.bool pn,.int pi,.int pg,.lst ch,.int r]->good (.tup [.agg [.int .u8 (.dat 15 (.int k)),.str (.dat 16 (.str t)),.lst EA (.dat 17 (.lst a)) true,.str (.dat 18 (.str x)),.int .i64 (.dat 19 (.int b)),.int .i64 (.dat 20 (.int sz)),.bool (.dat 21 (.bool pn)),.int .u32 (.dat 22 (.int pi)),.int .u32 (.dat 23 (.int pg)),.lst tHd (.dat 24 (.lst ch)) true],.int .i64 (.dat 25 (.int r))]) ((5,none)::(gst cCo2 (coE i g S fr lv c0 c1 c2 c3 c4 c5 c6 c7 st N) 15).h)))):=by kernel_rfl
end Go.D
namespace Go.D
open Go Go.Xe Go.Sx
def yD :kf PR tHd=[.int .u32,.int .u32]:=by kernel_rfl
variable {v:Av}
def Nl {F:FB}{n:Int}(h:PV PR F (.int .u32) v (.int n)):v= .int .u32 n:=by cases h;rfl
def Sr {F:FB}{D:DM}{l:Ah}(h:PV PR F (.sl tHd) v (.lst (l.map (z9 D.gen)))):∃q c,v= .slice q l.length c/\HSl D l q fun G B=>F G=some B:=by
 generalize hL:l.map (z9 D.gen)=L at h;have a:L.length=l.length:=by rw[<-hL];simp
 cases h with
 |nils=>exact⟨_,_,by rw[<-a];rfl,fun j x hj=>by have:=(Tn.1 hj).1;simp only[Vh]at a;omega⟩|vague=>exact⟨_,_,by rw[<-a];rfl,fun j x hj=>by have:=(Tn.1 hj).1;simp only[Vh]at a;omega⟩|sl e i o c b cs n z r x hF hb hc hn hz hr hx hp=>
  have p:z=2:=by rw[hz,yD];rfl
  subst p;refine⟨_,_,by rw[a],fun j y hj=>?_⟩;have E:=(Tn.1 hj).1;have f:L[j]? =some (z9 D.gen y):=by rw[<-hL];simp[hj]
  have C:(j+1)*2<=L.length*2:=Ty _ (by omega);have m:∀k d kd,(z9 D.gen y)[k]? =some d->(kf PR tHd)[k]? =some kd->cs.get (o+j*2+k)=some (x j k)/\PV PR F kd (x j k) d:=fun k d kd s hk=>⟨hx j k _ d f s,hp j k _ kd d f s hk⟩
  obtain⟨t,b0⟩:=m 0 _ (.int .u32) rfl (by rw[yD];rfl);obtain⟨w,A⟩:=m 1 _ (.int .u32) rfl (by rw[yD];rfl);refine⟨i,o,b,cs,n,_,rfl,hF,hb,by omega,?_⟩;have e0:x j 0= .int .u32 y:=Nl b0;have e1:x j 1= .int .u32 (D.gen y):=Nl A;exact B3 (vs:=hv D y) fun q hq=>by
   match q,hq with
   |0,_=>rw[t,e0];rfl|1,_=>rw[w,e1];rfl
def len10 {α:Type}{l:List α}(h:l.length=10):∃a b c d e f g i j k,l=[a,b,c,d,e,f,g,i,j,k]:=by
 match l,h with
 | [a,b,c,d,e,f,g,i,j,k],_=>exact⟨a,b,c,d,e,f,g,i,j,k,rfl⟩
def lkG (L:Sx.Rows)(h0:List (Nat×Bb B4))(a:SV)(hh:List (Nat×Bb B4)):Prop:=(∃(k:Int) (t:Ae) (a0:Sx.Rows) (x:Ae) (tp sz:Int) (pn:Bool) (pi pg:Int) (r:Int),a= .tup [.agg [.int .u8 (.dat 15 (.int k)),.str (.dat 16 (.str t)),.lst EA (.dat 17 (.lst a0)) true,.str (.dat 18 (.str x)),.int .i64 (.dat 19 (.int tp)),.int .i64 (.dat 20 (.int sz)),.bool (.dat 21 (.bool pn)),.int .u32 (.dat 22 (.int pi)),.int .u32 (.dat 23 (.int pg)),.lst tHd (.dat 24 (.lst L)) true],.int .i64 (.dat 25 (.int r))])/\hh=h0
section
variable {ov :Aa}{i g fr lv c0 c1 c2 c3 c4 c5 c6 c7:Int}{S st N:Sx.Rows}{τ:Tau}{F:FB}{hp0:Hp}{u:Av}{D:DM}{K:Nat}
def PY {j k a2 a3 m n o p s e a:E}{v:Av}(h:VD PR U0 τ F (.tup [.agg [.int .u8 j,.str k,.lst EA a2 true,.str a3,.int .i64 m,.int .i64 n,.bool o,.int .u32 p,.int .u32 s,.lst tHd e true],.int .i64 a]) v):∃vs:Af,∃r,v= .tuple [.agg vs.toArray,r].toArray/\vs.length=10/\vs.all Value.oneCell'=true/\ ∃f,vs[9]? =some f/\PV PR F (.sl tHd) f (.lst (e.toR U0)):=by
 cases h with
 |tup l xs h1 h2=>
 match xs,h1,h2 with
 | [x,r],_,h2=>
 have w:=h2 0 _ _ rfl rfl;cases w with
 |agg l xs h1 h3=>
 obtain⟨x0,B,C,G,H,I,J,L,M,A,rfl⟩:=len10 (show xs.length=10 from h1.symm);refine⟨_,r,rfl,rfl,?_,A,rfl,?_⟩
 ·have w0:=h3 0 _ _ rfl rfl;have w1:=h3 1 _ _ rfl rfl;have w2:=h3 2 _ _ rfl rfl;have w3:=h3 3 _ _ rfl rfl;have w4:=h3 4 _ _ rfl rfl;have w5:=h3 5 _ _ rfl rfl;have t:=h3 6 _ _ rfl rfl;have y:=h3 7 _ _ rfl rfl;have z:=h3 8 _ _ rfl rfl;have d:=h3 9 _ _ rfl rfl;cases w0;cases w1;cases w3;cases w4;cases w5;cases t;cases y;cases z;cases w2 with
  |lst _ _ _ _ p2 _=>
  cases d with
  |lst _ _ _ _ b _=>
  obtain⟨q,c,rfl⟩:=Bt p2;obtain⟨q',c',rfl⟩:=Bt b;rfl
 ·have d:=h3 9 _ _ rfl rfl;cases d with
  |lst _ _ _ _ b _=>exact b
def Po (hL:RRO PR U0 ov cLok lkF)(hs:SD PR U0 τ F (gst cCo2 (coE i g S fr lv c0 c1 c2 c3 c4 c5 c6 c7 st N) 15) hp0)(W:VD PR U0 τ F (.ptr 2 13 (.int 0) 0) u)(w:WF D K)(E:Rl D.gen D S N fr lv):AA ov D hp0.nx hp0.m.get u:=by
 intro c s hp hc us hn hk;have hs1:=NE hs hn hk;have lim:=w.lim;have U:=(Tn.1 hc).1;have hg:=w.gen s (Tv hc);have eg:=Vo hc;have A:D.at c (D.gen c)=some c:=Vn hc us;have J:=E.vld.2 ⟨c,A⟩;have hx:VDL PR U0 τ F (lkA c (D.gen c)) [u,.agg (hv D c).toArray]:= .cons W (.cons (.agg _ _ rfl fun q a x e hx=>by
  match q,e,hx with
  |0,e,hx=>cases e;cases hx;exact .int _ _
  |1,e,hx=>cases e;cases hx;exact .int _ _
  |q+2,e,hx=>simp at e) We)
 obtain⟨a,s',T,τ',F',hp',ex,C,v,B,I⟩:=P0 hL (lkA c (D.gen c)) _ τ F _ hp hx hs1 (fun r=>lkG (s.n.ch.map (z9 D.gen)) ((5,none)::(gst cCo2 (coE i g S fr lv c0 c1 c2 c3 c4 c5 c6 c7 st N) 15).h) r.1 r.2.h) (by
  rw[lk_vc (good:=lkG (s.n.ch.map (z9 D.gen)) ((5,none)::(gst cCo2 (coE i g S fr lv c0 c1 c2 c3 c4 c5 c6 c7 st N) 15).h))];refine nin (nrn (ndi ⟨⟨by omega,by omega⟩,⟨by omega,by omega⟩,D,K,E,w⟩ fun k t a x O sz pn pi pg ch r hL=>⟨⟨k,t,a,x,O,sz,pn,pi,pg,r,?_⟩,rfl⟩));have hL:if K0 S c (D.gen c)=true then _ else r=11:=hL
  rw[TJ J]at hL;obtain⟨_,_,_,_,_,_,_,_,_,Q,_⟩:=hL;obtain⟨s2,k1,_,_,_,_,_,_,_,_,_,X⟩:=E.flds A;rw[hc]at k1;cases k1;rw[Q,X]) hs1
 obtain⟨⟨k,t,a0,x,O,sz,pn,pi,pg,r,rfl⟩,hh⟩:=T;obtain⟨vs,r,rfl,L,V,v9,R,f⟩:=PY I;have f:PV PR F' (.sl tHd) v9 (.lst (s.n.ch.map (z9 D.gen))):=f;obtain⟨q,cc,rfl,H⟩:=Sr f;obtain⟨l,M,a2,a3,P,_⟩:=ex.hh;have hl:l=[(5,none)]:=by rw[hh]at M;exact(List.append_cancel_right (show [(5,none)]++_=l++_ from M)).symm
 have d:∀b x,(gst cCo2 (coE i g S fr lv c0 c1 c2 c3 c4 c5 c6 c7 st N) 15).get b=some x->b∈l.map Prod.fst->False:=fun b x hb hm=>by have hlt:b<5:=hs1.bound hb;rw[hl]at hm;simp at hm;omega
 refine⟨hp',vs,r,q,cc,B,ex.nx,fun b hb=>a2 b hb fun b' x o h _ hm=>d b' x h hm,L,V,R,fun j y hj=>?_⟩;obtain⟨p,Z,z,dc,Y,zc,e1,e2,e3⟩:=H j y hj;refine⟨p,Z,z,dc,Y,zc,e1,⟨C.frz p z e2,C.flt p z e2,?_⟩,e3⟩;by_cases hi:hp.nx<=p;exact .inr hi
 ·refine .inl ?_;rcases P p z (by omega) e2 with h| ⟨b,o,h1,h2⟩;exact hs.flt p z h
  ·rw[hl]at h2;have G:b=5:=by simpa using h2
   subst G;rcases a3 5 p o (TK 5) h1 with h| ⟨b0,x,o0,k1,_,k3⟩;omega;exact(d b0 x k1 k3).elim
end
end Go.D
namespace Go.D
open Go Go.Xe Go.Sx
def i64 (n:Int):Av:= .int .i64 n
section
variable {ov :Aa}{hp hp':Hp}{tm:Ao}{x y t i o n e z:Nat}{cs:Ao}{vs:Af}{v a:Av}
end
section
variable {ov :Aa}{hp hp1:Hp}{tm:Ao}{ws:Af}{b b2 b5:Nat}{Q:Ao->Hp->Prop}{cs:Ao}{ar:Ai}
end
def aL (n:a9):Nat:=n.a.length
mutual
def LG :∀s:a9,((Nc s).map aL).sum=Jo s
 | .mk k t y a x c=>by simp only[Nc,Um,List.sum_cons,Jo,attNs_pre c];rfl
def attNs_pre :∀l:List a9,((preL l).map aL).sum=attNs l
 | []=>rfl|s::l=>by simp only[preL,Ui,List.sum_append,attNs,LG s,attNs_pre l]
end
mutual
def OO :∀s:a9,J3 s->Jo s<=8*s.size
 | .mk k t y a x c,h=>by
  unfold J3 at h;have b:a.length<=8:=by rcases h.1 with h|h;have:a=[]:=h.2.2.2.2.1;simp[this];exact h.2.2.2.2.1
  have:=attNs_le c h.2;simp only[Jo,a9.size];omega
def attNs_le :∀l:List a9,AllAs l->attNs l<=8*a9.sizes l
 | [],_=>by simp[attNs]|s::l,h=>by unfold AllAs at h;have:=OO s h.1;have:=attNs_le l h.2;simp only[attNs,a9.sizes];omega
end
section
variable {ov :Aa}{s:a9}{F:FB}{j b5 db:Nat}{hp2:Hp}{tms:Ao}
end
section
variable {ov :Aa}{F:FB}{hp:Hp}{s:a9}{ws:Af}
end
section
variable {τ :Tau}{F:FB}{s:SS}{bl:Ah}
end
variable {ov :Aa}
