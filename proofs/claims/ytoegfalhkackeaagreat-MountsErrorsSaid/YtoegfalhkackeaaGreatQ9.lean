/- Mounts: the nodes of a tree are yielded (all): the closure, for every tree.
  Conditions: none. -/
import Derived.Test.YtoegfalhkackeaaGreatQ8
set_option maxRecDepth 10000
set_option linter.all false
noncomputable section
namespace Go.D
open Go Go.Xe Go.Sx
def Kp.leave {W:Nat->Prop}{hp a c:Hp}(K:Kp W hp a)(hn:c.nx=a.nx)(h:∀b,a.m.get b≠some .dfr->c.m.get b=a.m.get b)(kp:I8 hp c):Kp W hp c:=
 ⟨by rw[hn];exact K.1,fun b hb e=>by by_cases d:a.m.get b=some .dfr;have:=K.2 b hb e;rw[d]at this;rw[<-this];exact kp.dfr b hb this.symm;rw[h b d];exact K.2 b hb e⟩
def JW {ov:Aa}(u:Xe.isT (ov aF)=false)(w:Xe.isT (ov aG)=false):∀(N:Nat) (s:a9),s.size<=N->s.size<1000000->Oo ov s
 |0,s,h,_=>by have:=V3 s;omega|N+1,s,hN,hs=>by
  intro i n0 k0 b W g0 J Y F hp cs R S hb U bw t hF Z;have H:=V3 s;obtain⟨ws,hl,h6,o⟩:=t.load;have nW:∀b,n0<=b-> ¬W b:=fun b hb o=>by have:=R.wlt b o;omega
  have P:=S.nx;obtain⟨tm1,hpa,X0,q1,q2,D⟩:=a_0 (ov:=ov) (ar:=none) (i:=i) (v:= .pointer (some ⟨b,0,none⟩)) (hp:=hp) (tm:=fill .e 0 [.chan (some i),.pointer (some ⟨b,0,none⟩)]) (Q:=fun tm1 h1=>tm1.get 1=some (.pointer (some ⟨b,0,none⟩))/\tm1.get 2=some (.pointer (some ⟨hp.nx,0,none⟩))/\h1=⟨hp.m.set hp.nx (some (.cells (fill .e 0 [.chan (some i)]) 1 tYl 1)),hp.nx+1⟩)
   (by rw[z7 _ _ (by simp)];rfl) (by rw[z7 _ _ (by simp)];rfl) fun tm1 a c=>⟨a,c,rfl⟩
  have p:∀c,c<hp.nx->hpa.m.get c=hp.m.get c:=fun c hc=>by rw[D];show(hp.m.set hp.nx _).get c=_;rw[TQ,Re (by omega)]
  have V:hpa.m.get hp.nx=some (.cells (fill .e 0 [.chan (some i)]) 1 tYl 1):=by rw[D];show(hp.m.set hp.nx _).get hp.nx=_;rw[TQ,Rh rfl]
  have aa:hpa.nx=hp.nx+1:=by rw[D]
  have Ka:Kp W hp hpa:=⟨by omega,fun c hc _=>p c hc⟩
  have Sa:St W n0 g0 J k0 hpa:=S.grow R (by omega) fun c hc=>p c (by omega);obtain⟨E,XR,Sb,Kb⟩:=R.step k0 [.agg ws.toArray] hpa Sa (Z 0 s ws (by rw[Dg];rfl) h6 o);have I:=Kb.keeps fun c hc=>R.nodfr k0 _ c Sa.j hc;have ab:=Kb.1;obtain⟨g,k,X1,B,q9,eb⟩:=a_1 (ov:=ov) (ar:=none) (tm:=tm1) (Q:=fun g h2=>(∀x,x<6->g.get x=tm1.get x)/\g.get 9=some (.bool false)/\h2=E) q1 q2 V ((p b U).trans hb) hl XR I fun g a c=>⟨a,c,rfl⟩
  subst eb;obtain⟨hH,vc,r,hv⟩:=t;have r:cs.get 5=some vc:=by have r:cs.get (0+5)=some vc:=r;rwa[Rr]at r
  obtain⟨q,c,ev⟩:=Qb hv;subst ev;obtain⟨f,l,X2,M,K,C,L,e2⟩:=a_2 (ov:=ov) (ar:=none) (tm:=g) (hp:=k) (Q:=fun f h3=>(∀x,x<6->f.get x=g.get x)/\f.get 11=some (.slice q s.c.length c)/\f.get 12=some (.int .i64 s.c.length)/\f.get 13=some (.int .i64 0)/\h3=k) (by rw[B 1 (by decide)];exact q1) (by rw[Kb.2 b (by omega) bw,p b U];exact hb) r fun f a1 a2 a3 a4=>⟨a1,a2,a3,a4,rfl⟩
  subst e2;obtain⟨O,G,XL,SL,KL⟩:=JX w (IH:=fun d n=>JW u w N d (by have:=yP n;omega) (by have:=yP n;omega)) (by have:=xP s.c;omega) R (y:=hp.nx) (hpa:=l) P (by omega) (by rw[Kb.2 hp.nx (by omega) (nW _ P)];exact V)
   (fun x z hx=>by obtain⟨a1,a2,a3⟩:=hF x z hx;exact⟨by rw[Kb.2 x (by omega) a3,p x a2];exact a1,by omega,a3⟩) hv Z s.c [] f l rfl (by rw[M 2 (by decide),B 2 (by decide)];exact q2) K C L (by simpa [a9.sizes]using Sb) .refl
  have X:XK PR ov none 25 (R5 PR aF) (fill .e 0 [.chan (some i),.pointer (some ⟨b,0,none⟩)]) hp .normal O G:=by rw[Pq];exact X0.seq ((X1.seq (XK.condF (evt q9) .skip)).seq (X2.seq (XK.blockX XL)))
  obtain⟨A,r1,r2,r3,r4⟩:=pO (ov:=ov) (args:=[.chan (some i),.pointer (some ⟨b,0,none⟩)]) (c:=R5 PR aF) a_fn (by kernel_rfl) u (show XK PR ov none (2+(Go.Proofs.Tryz.f108.ntmps-2)) _ _ _ _ _ _ from(show 2+(Go.Proofs.Tryz.f108.ntmps-2)=25 from by kernel_rfl)▸X) (.inl rfl) (vs:=[]) (fun _ _=>by
   have e:Go.Proofs.Tryz.f108.results.toList=[]:=by kernel_rfl
   rw[e];rfl)
  have K3:Kp W hp A:=((Ka.trans Kb).trans KL).leave r2 r3 r4;have k1:=K3.1;refine⟨A,r1,⟨by omega,fun d n o=>by rw[K3.2 d (by omega) o];exact S.old d n o,?_⟩,K3⟩;rw[H,show k0+(a9.sizes s.c+1)=k0+1+a9.sizes s.c by omega];exact R.stab _ _ _ SL.j fun d n=>r3 d (R.nodfr _ _ d SL.j n)
abbrev cF :Ay:=23
abbrev tC :Ax:=48
abbrev tW :Ax:=3
abbrev tAs :Ax:=27
def zS :R5 PR cF=Go.Proofs.Tryz.f23.body.getD .skip:=by kernel_rfl
def c_fn :PR.funcs[cF]? =some Go.Proofs.Tryz.f23:=by kernel_rfl
abbrev nF :Ay:=18
def n_fn :PR.funcs[nF]? =some Go.Proofs.Tryz.f18:=by kernel_rfl
def n_ok :jB Go.Proofs.Tryz.f18=true:=by kernel_rfl
def zC :Av:=(V5 PR tC).getD undef
def zC_eq :V5 PR tC=some zC:=by kernel_rfl
def QG :zC.cells.toList.length=8:=by kernel_rfl
def zCB :Ao:=fill .e 0 zC.cells.toList
def box_C :Nat.beq tC rgT=false:=by kernel_rfl
def box_W :Nat.beq tW rgT=false:=by kernel_rfl
def i64 (n:Int):Av:= .int .i64 n
def zW :Ao:=fill .e 0 [i64 0]
def zW_eq :V5 PR tW=some (i64 0):=by kernel_rfl
def Oz :(PR.underlying tW).map dF=some false:=by kernel_rfl
def Pr :(PR.underlying tAs).map dF=some false:=by kernel_rfl
def Qp :PR.underlying tAs=some (.slice tAt):=by kernel_rfl
noncomputable def niC :Ba:=(PR.info? tC).getD default
def Lq :PR.info? tC=some niC:=by kernel_rfl
def CY :niC.size=8:=by kernel_rfl
noncomputable def niW :Ba:=(PR.info? tW).getD default
def PJ :PR.info? tW=some niW:=by kernel_rfl
def Ls :niW.size=1:=by kernel_rfl
def agg_C :(PR.underlying tC).map dF=some true:=by kernel_rfl
def bld_0 :eE PR tC []=some (.agg #[i64 0,i64 0,i64 0,i64 0,i64 0,i64 0,i64 0,i64 0]):=by kernel_rfl
def bld_4 (a b c d:Int):eE PR tC [(0,i64 a),(1,i64 b),(3,i64 c),(6,i64 d)]=some (.agg #[i64 a,i64 b,i64 0,i64 c,i64 0,i64 0,i64 d,i64 0]):=by kernel_rfl
section
variable {ov :Aa}{hp hp':Hp}{tm:Ao}{x y t i o n e z:Nat}{cs:Ao}{vs:Af}{v a:Av}
theorem ld_C {m:T Blk}{nx:Nat}(h:m.get i=some (.cells cs n e z))(hn:o+8<=n)(hl:n9 cs o 8=some vs):D5 PR ⟨m,nx⟩ tC (.pointer (some ⟨i,o,none⟩))=some (.agg vs.toArray):=by
 have h1:=agg_C;cases b:PR.underlying tC with
 |none=>grind|some d=>rw[b]at h1;simp at h1;simp only[D5,h,rdC,b,h1,Ra,Lq,CY,QQ hn,hl]
def st_C (h:hp.m.get i=some (.cells cs n e z))(hn:o+8<=n)(hl:vs.length=8)(b:vs.all Value.oneCell'=true):D3 PR hp tC (.pointer (some ⟨i,o,none⟩)) (.agg vs.toArray)=some {hp with m:=hp.m.set i (some (.cells (fill cs o vs) n e z))}:=by have:(Value.agg vs.toArray).cells.toList=vs:=rfl;simp only[D3,h,Lq,CY,this,hl,v9,QQ hn,b,Bool.and_self,Ra,G9]
variable {k:Int}
def st_W (h:hp.m.get i=some (.cells cs n e z))(hn:o+1<=n):D3 PR hp tW (.pointer (some ⟨i,o,none⟩)) (i64 k)=some {hp with m:=hp.m.set i (some (.cells (fill cs o [i64 k]) n e z))}:=by have:(i64 k).cells.toList=[i64 k]:=rfl;have h2: [i64 k].all Value.oneCell'=true:=rfl;simp only[D3,h,PJ,Ls,this,RC,Tc,Rr,v9,QQ hn,h2,Bool.and_self,Ra,G9]
def Gx (k:Int)(call:i9):xop PR call tm hp (.assign (.const (.int .i64 k)))=some (i64 k,hp):=by have h:cst (.int .i64 k)=true:=rfl;simp only[c8,l5,c9,h,Ra,i8];rfl
def JA (call:i9):xop PR call tm hp (.alloc tC)=some (.pointer (some ⟨hp.nx,0,none⟩),⟨hp.m.set hp.nx (some (.cells zCB 8 tC 8)),hp.nx+1⟩):=by simp only[c8,l5,gK,box_C,Rb,xnw,bC,zC_eq,M1,Hp.add,Nw.val,I4,QG,zCB]
def JB (call:i9):xop PR call tm hp (.alloc tW)=some (.pointer (some ⟨hp.nx,0,none⟩),⟨hp.m.set hp.nx (some (.cells zW 1 tW 1)),hp.nx+1⟩):=by simp only[c8,l5,gK,box_W,Rb,xnw,bC,zW_eq,M1,Hp.add,Nw.val,I4];rfl
def JC (hx:tm.get x=some a)(h:D3 PR hp t a (i64 k)=some hp')(call:i9):xop PR call tm hp (.store t (.tmp x) (.const (.int .i64 k)))=some (undef,hp'):=by have hc:cst (.int .i64 k)=true:=rfl;have h:D3 PR hp t a (.int .i64 k)=some hp':=h;simp only[c8,l5,c9,hx,hc,Ra,RB,h]
def Qz {t':Ax}(hx:tm.get x=some (i64 k))(call:i9):xop PR call tm hp (.binOp .eql t (.tmp x) (.const (.int .i64 0)) t')=some (.bool (decide (k=0)),hp):=by have h:cst (.int .i64 0)=true:=rfl;have hx:tm.get x=some (.int .i64 k):=hx;simp only[c8,l5,c9,hx,h,RB,G5,Z0,RT,Ra,C3,gX,i8]
def Qy {t':Ax}(hx:tm.get x=some (i64 k))(h0:1<=k)(h1:k<1000000)(call:i9):xop PR call tm hp (.binOp .sub t (.tmp x) (.const (.int .i64 1)) t')=some (i64 (k-1),hp):=by have h:cst (.int .i64 1)=true:=rfl;have hx:tm.get x=some (.int .i64 k):=hx;have b:IntKind.i64.wrap (k-1)=k-1:=rP (by rw[show IntKind.i64.min= -9223372036854775808 from rfl];omega) (by rw[show IntKind.i64.max=9223372036854775807 from rfl];omega);simp only[c8,l5,c9,hx,h,RB,G5,Z0,RT,Ra,C3,i8,b];rfl
def Qx {l:Int}{t':Ax}(hx:tm.get x=some (i64 k))(hy:tm.get y=some (i64 l))(h0:0<=k)(h1:k<1000000)(h2:0<=l)(h3:l<1000000)(call:i9):xop PR call tm hp (.binOp .add t (.tmp x) (.tmp y) t')=some (i64 (k+l),hp):=by have hx:tm.get x=some (.int .i64 k):=hx;have hy:tm.get y=some (.int .i64 l):=hy;have b:IntKind.i64.wrap (k+l)=k+l:=rP (by rw[show IntKind.i64.min= -9223372036854775808 from rfl];omega) (by rw[show IntKind.i64.max=9223372036854775807 from rfl];omega);simp only[c8,l5,c9,hx,hy,RB,G5,Z0,RT,Ra,C3,i8,b];rfl
def Oi (hx:tm.get x=some (.pointer (some ⟨i,o,none⟩)))(call:i9):xop PR call tm hp (.fieldAddr tN (.tmp x) 3)=some (.pointer (some ⟨i,o+3,none⟩),hp):=by simp only[c8,l5,c9,hx,RB,fa_A,i8]
def Oj {q:Aq}{l c:Nat}{b:Array Ax}(hx:tm.get x=some (.slice q l c))(ht:b.toList=[tAs])(call:i9):xop PR call tm hp (.call ⟨.builtin .len,#[.tmp x],b⟩)=some (i64 l,hp):=by have h:W7 hp PR tAs (.slice q l c)=some (.int .i64 l):=lF Qp q l c;simp only[c8,l5,aH,c9,hx,RB,B4,ht,h,i8];rfl
def Og (call:i9):xop PR call tm hp (.build tC #[])=some (.agg #[i64 0,i64 0,i64 0,i64 0,i64 0,i64 0,i64 0,i64 0],hp):=by simp only[c8,l5,W3,bld_0,i8]
def Oh {f g h j:Nat}{a b c d:Int}(h1:tm.get f=some (i64 a))(h2:tm.get g=some (i64 b))(h3:tm.get h=some (i64 c))(h4:tm.get j=some (i64 d))(call:i9):xop PR call tm hp (.build tC #[(0,.tmp f),(1,.tmp g),(3,.tmp h),(6,.tmp j)])=some (.agg #[i64 a,i64 b,i64 0,i64 c,i64 0,i64 0,i64 d,i64 0],hp):=by simp only[c8,l5,W3,c9,h1,h2,h3,h4,RB,bld_4,i8]
