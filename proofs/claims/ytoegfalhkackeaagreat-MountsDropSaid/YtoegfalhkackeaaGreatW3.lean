/- The reference's Check: the conditions of Name, Str and one hold.
  Conditions: none. -/
import Derived.Test.YtoegfalhkackeaaGreatY2
import Derived.Test.YtoegfalhkackeaaGreatHD
set_option maxRecDepth 100000
set_option linter.all false
noncomputable section
namespace Go.D
open Go Go.Xe Go.Sx
theorem li :ik:=by
 unfold ik fg Nd;intro s hp;have F:¬(s.length:Int)<1->16<s.length\/s.all jW=true->(!decide (16<(s.length:Int)))=B3 s:=λh h2=>by by_cases c:16<s.length;rw[jE (.inr c),decide_eq_true (by omega)];rfl;rw[AR (by omega) (by omega) (h2.resolve_left c),Ut (by omega)];rfl
 simp only[ln,I64,D8,D6,AH,rB,Kl,A2,Ug,Up];refine⟨⟨by omega,by omega,rfl⟩,λ_ k ⟨k0,k1,k2⟩=>⟨λhk=>⟨λa=>?_,λa=>(by grind)⟩,λhk=>⟨λh=>(jE (.inl (by omega))).symm,λh=>F h (.inr (aT k2 (by omega)))⟩⟩⟩;obtain⟨b,hb,d⟩:=rZ k0 hk
 repeat' first| (refine Tw ?_ ?_)|intro _
 all_goals first|omega|exact(AQ (mD hb (zX (by omega)))).symm|exact mE hb k0 k2 (Ea (by omega))
def og :kz:=by
 unfold kz Nd;intro s hp;simp only[ln,I64,J3,L4,EB,wL,rsMu,A2,Ug,Up];refine⟨λh=>(EY (by omega)).symm,λh=>⟨⟨by omega,by omega,rfl⟩,λ_ k ⟨k0,k1,k2⟩=>⟨λhk=>?_,λhk=>(EZ (by omega) (aT k2 (by omega))).symm⟩⟩⟩;obtain⟨b,hb,a⟩:=rZ k0 hk
 repeat' first| (refine Tw ?_ ?_)|intro _
 all_goals first|omega|exact(wX (mD hb (wN (by omega)))).symm|exact mE hb k0 k2 (Jf (by omega) (by omega))
open Go Go.Xe Go.Sx
variable {a:List Att}
def BU {i:Int}:zZ [.l (a.map Att.row)] [.i i]↔0<=i/\i<=(a.length:Int)/\(∀z∈a.take i.toNat,B3 z.n=true/\H9 z.v=true)/\Asc ((a.take i.toNat).map Att.n):=by simp only[zZ,ln,Tm];exact⟨λ⟨h0,h1,h⟩=>⟨h0,h1,h a rfl⟩,λ⟨h0,h1,h⟩=>⟨h0,h1,λb e=>by rw[<-T0 e];exact h⟩⟩
def BV {i k:Int}:Ad [.l (a.map Att.row),.i i] [.i k]↔0<=k/\k<=i/\i<(a.length:Int)/\ ∀z∈a.take k.toNat,lt z.n (a.getD i.toNat ⟨[],[]⟩).n=true:=by simp only[Ad,ln,Tm];exact⟨λ⟨h0,h1,h2,h⟩=>⟨h0,h1,h2,h a rfl⟩,λ⟨h0,h1,h2,h⟩=>⟨h0,h1,h2,λb e=>by rw[<-T0 e];exact h⟩⟩
variable {l:List Att}
theorem Lq {b:Att}(h:Asc (l.map Att.n))(hb:∀z∈l,lt z.n b.n=true):Asc ((l++ [b]).map Att.n):=by unfold Asc at h⊢;grind
def QL (h:Asc (l.map Att.n)){i k:Nat}{a b:Att}(hk:l[k]? =some a)(hi:l[i]? =some b)(c:k<i):lt a.n b.n=true:=Em h (H2 hk) (H2 hi) c
theorem MO (s:c9)(hk:s.k=1)(ht:B3 s.t=true)(hy:s.y=[]\/B3 s.y=true):iv s.x (s.a.map Att.row) s.k s.t s.y (rows s.c):=by
 have AL:Y4 s↔(s.x=[]/\s.a.length<=8/\s.c.length<=16/\(∀a∈s.a,B3 a.n=true/\H9 a.v=true)/\Asc (s.a.map Att.n)/\kH (s.c.map c9.y)):=by constructor;rintro (h|h);omega;exact h.2.2.2;exactλh=>.inr ⟨hk,ht,hy,h⟩
 have kr:=uA s.c;unfold iv;simp only[Nd,I64,G8,H5,forall_eq,P0,R5,D8,J3,D6,L4,EC,cS,Ee,Aj,oaMu,ocMu,MM,JW,A2,kr,ln,Tm,Ug,Up,Ul,TN];refine⟨λhx=>⟨λK=>D9 λh=>?_,λK=>⟨λC=>D9 λh=>?_,λC=>⟨BU.2 ⟨by omega,by omega,by simp,by simp[Asc]⟩,λ_ i hi=>⟨λg=>?_,λg=>?_⟩⟩⟩⟩,λhx=>D9 λh=>hx (AL.1 h).1⟩;have:=(AL.1 h).2.1;omega;have:=(AL.1 h).2.2.1;omega
 .obtain⟨i0,L,u,w⟩:=BU.1 hi;obtain⟨b,hb⟩:=Sx.get_at i0 g;have p:=Td hb;have o:s.a.getD i.toNat ⟨[],[]⟩=b:=by rw[Tz,hb];rfl
  simp only[d9 hb,at0,at1,C7];refine⟨by omega,λ_=>⟨g,λ_=>⟨λhn=>⟨by omega,λ_=>⟨g,λ_=>⟨λhv=>?_,λhv=>D9 λh=>hv ((AL.1 h).2.2.2.1 b p).2⟩⟩⟩,λhn=>D9 λh=>hn ((AL.1 h).2.2.2.1 b p).1⟩⟩⟩;refine⟨BV.2 ⟨by omega,by omega,g,by simp⟩,λ_ k r=>⟨λF=>?_,λF=>?_⟩⟩;obtain⟨k0,k1,k2,k3⟩:=BV.1 r;obtain⟨a,D⟩:=Sx.get_at k0 (show k<(s.a.length:Int) by omega);simp only[d9 D,at0,C7];refine⟨by omega,λ_=>⟨by omega,λ_=>⟨by omega,λ_=>⟨g,λ_=>⟨λhl=>⟨⟨by omega,by omega⟩,λ_=>⟨BV.2 ⟨by omega,by omega,g,?_⟩,λ_=>by omega⟩⟩,λhl=>D9 λh=>hl (QL (AL.1 h).2.2.2.2.1 D hb (by omega))⟩⟩⟩⟩⟩;rw[p6 k0 D];intro z hz;rcases TG.1 hz with hz|hz;exact k3 z hz;cases Ui.1 hz;rw[o];exact hl
  .obtain⟨k0,k1,k2,k3⟩:=BV.1 r;have B:k=i:=by omega
   subst B;rw[o]at k3;refine⟨⟨by omega,by omega⟩,λ_=>⟨BU.2 ⟨by omega,by omega,?_,?_⟩,λ_=>by omega⟩⟩;rw[p6 i0 hb];intro z hz;rcases TG.1 hz with hz|hz;exact u z hz;cases Ui.1 hz;exact⟨hn,hv⟩;rw[p6 i0 hb];exact Lq w k3
 .obtain⟨i0,L,u,w⟩:=BU.1 hi;rw[A3 (by omega)]at u w;refine⟨⟨by omega,by omega,by simp[kH]⟩,λ_ j ⟨J,M,H⟩=>⟨λhj=>?_,λhj=>?_⟩⟩
  .obtain⟨c,hc⟩:=Sx.get_at J hj;have m:=H2 (f:=c9.y) hc;have E:(s.c.map c9.y).getD j.toNat []=c.y:=by rw[Tz,m];rfl
   simp only[Q3 hc,t2,C7,E];refine⟨⟨by omega,by omega,hj,.inr (by simp)⟩,λ_ k ⟨k0,k1,k2,k3⟩=>⟨λG=>?_,λG=>?_⟩⟩;obtain⟨d,I⟩:=Sx.get_at k0 (show k<(s.c.length:Int) by omega);have q:=H2 (f:=c9.y) I;simp only[Q3 I,t2,C7];refine⟨by omega,λ_=>⟨hj,λ_=>⟨λe=>⟨⟨by omega,by omega⟩,λ_=>⟨⟨by omega,by omega,hj,.inl e⟩,λ_=>by omega⟩⟩,λe=>⟨by omega,λ_=>⟨hj,λ_=>⟨by omega,λ_=>⟨by omega,λ_=>⟨λA=>D9 λh=>DO q m (by omega) e A.symm (AL.1 h).2.2.2.2.2,λA=>⟨⟨by omega,by omega⟩,λ_=>⟨⟨by omega,by omega,hj,.inr λz hz=>?_⟩,λ_=>by omega⟩⟩⟩⟩⟩⟩⟩⟩⟩⟩;rw[p6 k0 q]at hz;rcases TG.1 hz with hz|hz;exact(k3.resolve_left e) z hz;cases Ui.1 hz;exactλc=>A c.symm
   .have B:k=j:=by omega
    subst B;refine⟨⟨by omega,by omega⟩,λ_=>⟨⟨by omega,by omega,oX J m H k3⟩,λ_=>by omega⟩⟩
  rw[A3 (by grind)]at H;exact⟨λ_=>AL.2 ⟨hx,by omega,by omega,u,w,H⟩,λ_=>trivial⟩
theorem vk :VZ:=by
 rintro _ _ _ _ _ _ ⟨s,rfl,rfl,rfl,rfl,rfl,rfl⟩;have B:=MO s;simp only[Nd,G8,H5,forall_eq,P0,R5,D8,J3,D6,L4,EC,ln,Tm,Ug,Up,Ul,TN];refine⟨λhk=>?_,λhk=>⟨λh1=>⟨λht=>⟨λhy=>B h1 ht (.inl hy),λhy=>⟨λh2=>B h1 ht (.inr h2),λh2=>D9 λh=>?_⟩⟩,λht=>D9 λh=>?_⟩,λh1=>D9 λh=>?_⟩⟩
 .have b:Y4 s↔(H9 s.x=true/\s.t=[]/\s.y=[]/\s.a=[]/\s.c=[]):=by unfold Y4;simp[hk]
  simp_all
 all_goals
  rcases h<;>grind
open Go Go.Xe Go.Sx
variable {c:List c9}
def Bt {lv i n:Int}:qU [.l (rows c),.i lv] [.i i,.i n]↔0<=i/\i<=(c.length:Int)/\1<=lv/\1<=n/\n<=1000+64*lv/\(n<=64↔AllAs (c.take i.toNat)/\(c9.depths (c.take i.toNat):Int)+1<=lv/\c9.sizes (c.take i.toNat)+1<=64)/\(n<=64->n=c9.sizes (c.take i.toNat)+1):=by simp only[qU,ln,Tm,Cn,forall_eq']
def OM {lv i n m:Int}{a:c9}(h:qU [.l (rows c),.i lv] [.i i,.i n])(b:c[i.toNat]? =some a)(hn:¬64<n)(m1:1<=m)(r:m<=1000+64*(lv+(-1)))(hm:m<=64↔Fits a (lv+(-1)))(d:m<=64->m=a.size):qU [.l (rows c),.i lv] [.i (i+1),.i (n+m)]:=by obtain⟨h0,h1,h2,h3,h4,g,q⟩:=Bt.1 h;have hi:=(SW.1 b).1;obtain⟨f,o,p⟩:=g.1 (by omega);refine Bt.2 ⟨by omega,by omega,h2,by omega,by omega,?_,?_⟩;rw[p6 h0 b,oH,kN,iY,MP,Qv];constructor;intro hs;obtain⟨e,j,k⟩:=hm.1 (by omega);refine⟨⟨f,e,trivial⟩,by omega,by omega⟩;rintro ⟨⟨k1,k2,_⟩,k3,k4⟩;have:=d (hm.2 ⟨k2,by omega,by omega⟩);omega;intro hs;rw[p6 h0 b,iY,MP];omega
theorem pf (N:Nat):ua N:=by
 rintro _ _ _ _ _ _ lv ⟨⟨h0,F,s,rfl,rfl,rfl,rfl,rfl,rfl⟩,o⟩;have o:lv.toNat<N+1:=o;have G:=yX s;have hz:=wI s;have no:∀n:Int,64<n->n<=1000+64*lv-> ¬Fits s lv->U4 [.i s.k,.s s.t,.s s.y,.l (s.a.map Att.row),.s s.x,.l (rows s.c),.i lv] [.i n]:=λn h1 h2 h3=>by refine⟨by omega,h2,λa e=>?_⟩;rw[H5]at e;grind
 simp only[Nd,G8,H5,forall_eq,I64];refine⟨λhl=>⟨no _ (by omega) (by omega) λf=>by have:=f.2.1;omega,λ_=>trivial⟩,λhl=>⟨⟨s,rfl,rfl,rfl,rfl,rfl,rfl⟩,λ_ b hb=>⟨λr=>?_,λq=>⟨no _ (by omega) (by omega) λf=>q (hb.2 ((L5 s).1 f.1).1),λ_=>trivial⟩⟩⟩⟩;have j:=hb.1 r;have v:=(mF j).1;refine⟨Bt.2 ⟨by omega,by omega,by omega,by omega,by omega,by simp[AllAs,c9.depths,c9.sizes];omega,by simp[c9.sizes]⟩,λ_ i n hi=>?_⟩;obtain⟨i0,H,I,z,u,p,A⟩:=Bt.1 hi;have E:ln (rows s.c)=(s.c.length:Int):=by grind
 simp only[E];refine⟨λg=>⟨λd=>⟨no n d u λf=>?_,λ_=>trivial⟩,λd=>?_⟩,λg=>⟨?_,λ_=>trivial⟩⟩;have w:=((L5 s).1 f.1).2;have:=yY s.c i.toNat;have:=EJ s.c i.toNat;have:=p.2 ⟨FE w _,by have:=f.2.1;omega,by have:=f.2.2;omega⟩;omega;obtain⟨a,e⟩:=Sx.get_at i0 g;simp only[cI,cS,cL,Q3 e,t0,t1,t2,t3,t4,t5,jD,C7,cR,U4,iP,pJ,H5,forall_eq,exists_eq,Up];refine⟨by omega,λ_=>⟨g,λ_=>⟨⟨by omega,by omega⟩,λ_=>⟨(by grind),λ_ m ⟨m1,B,C,D⟩=>⟨⟨by omega,by omega⟩,λ_=>⟨⟨by omega,by omega⟩,λ_=>⟨OM hi e d m1 B C D,λ_=>⟨?_,λ_=>trivial⟩⟩⟩⟩⟩⟩⟩⟩;show(((rows s.c).length:Int)-(i+1)).toNat<(((rows s.c).length:Int)-i).toNat;rw[Tm];omega;rw[A3 (by omega)]at p A;refine⟨z,u,λa e=>?_⟩;rw[H5]at e;subst e;refine⟨⟨λh=>?_,λf=>?_⟩,λh=>by omega⟩;obtain⟨k1,k2,k3⟩:=p.1 h;exact⟨(L5 _).2 ⟨j,k1⟩,by omega,by omega⟩;exact p.2 ⟨((L5 _).1 f.1).2,by have:=f.2.1;omega,by have:=f.2.2;omega⟩
theorem pm :uh:=by
 rintro _ _ _ _ _ _ ⟨s,rfl,rfl,rfl,rfl,rfl,rfl⟩;simp only[Nd,U4,iP,U3,T5,H5,forall_eq,exists_eq,Up,Ug];have V:Fits s 6↔E3 s:=⟨λf=>⟨f.1,f.2.2,by have:=f.2.1;omega⟩,λv=>⟨v.1,by have:=v.2.2;omega,v.2.1⟩⟩
 grind
end Go.D
namespace Go.D
open Go Go.Xe Go.Sx Go.RowKit
open Go.Proofs
def PM :∀g t,LO g=some t->kI PR g t:=Pi (kI.of 4 (by kernel_rfl) (by kernel_rfl) (by kernel_rfl) (by kernel_rfl) (by kernel_rfl)) Pe
def JM (hm:PR.follows .mixedOrders=true):FJ PR LVn:=λw=>FU hm PM JL w
noncomputable def LV :Aa:=BZ LVn kD LO
def YL (hm:PR.follows .mixedOrders=true):∀g t,LV g=some t->kI PR g t:=by
 intro g t h;unfold LV BZ at h;cases hb:Nat.beq g LVn with
 |true=>rw[hb,Tk,SQ]at h;rw[<-h,SY hb];exact Pj (JM hm)|false=>rw[hb,Tl]at h;exact PM g t h
noncomputable def ρh :Go.Shelf.Ren:=⟨λn=>bif Nat.beq n 27 then 119 else bif Nat.beq n 28 then 120 else n,λt=>bif Nat.beq t 22 then 41 else t,λg=>g⟩
noncomputable def ieh :Ba:=(PR.info? tHd).getD default
def Ml :PR.info? tHd=some ieh:=by kernel_rfl
def DK :ieh.size=2:=by kernel_rfl
def zvH :Av:= .agg #[.int .u32 0,.int .u32 0]
def delH :HL PR 159 ρh tHd ieh zvH where
 fn:=⟨By PR 159,by kernel_rfl,by kernel_rfl,by kernel_rfl,by kernel_rfl⟩
 t22:=by kernel_rfl
 ty:=Ml
 zero:=by kernel_rfl
 cst:=rfl
 zl:=by kernel_rfl
 one:=rfl
 by_:=Uw (by kernel_rfl)
def insH :jQ PR 73 ρh tHd ieh zvH where
 fn:=⟨By PR 73,by kernel_rfl,by kernel_rfl,by kernel_rfl,by kernel_rfl⟩
 t22:=by kernel_rfl
 t3:=by kernel_rfl
 ty:=Ml
 zero:=by kernel_rfl
 cst:=rfl
 zl:=by kernel_rfl
 sz:=by rw[DK];decide
 by_:=Uw (by kernel_rfl)
 fo:=⟨By PR 119,by kernel_rfl,by kernel_rfl⟩
 nT:=by kernel_rfl
def B1 :j2 PR U0 LV (cq "lives") LVn:=KV rfl "lives"
def K6 :O6 PR U0 LV [(LVn,cq "lives")]:=⟨B1,trivial⟩
def noX :dC PR U0 LV []:=trivial
def OP :j2 PR U0 LV mj 161:=i4 eZ K6 noX 400 mc mb (z9 rfl)
def Rs :j2 PR U0 LV zh 160:=i4 eZ K6 noX 400 nl nj (z9 rfl)
def YX :O6 PR U0 LV (eD 1):=⟨OP,Rs,B1,trivial⟩
def OO :j2 PR U0 LV ml 105:=i4 eZ YX noX 400 mf me (z9 rfl)
def YW :O6 PR U0 LV (eD 2):=⟨OO,B1,trivial⟩
def Rt :j2 PR U0 LV ms 104:=P8 eZ YW noX 400 iA ni nh (λn=>z9 rfl)
def YV :O6 PR U0 LV (eD 3):=⟨Rt,B1,trivial⟩
def LU :j2 PR U0 LV fp 42:=i4 eZ YV noX 400 yo yn (z9 rfl)
def Yo :j2 PR U0 LV zw 98:=P8 eZ K6 noX 400 yT yg yf (λn=>z9 rfl)
def Xs :RRO PR U0 LV cAt 68:=R4 W3 K6 noX 400 Fd Eq (z9 rfl)
def Xh :RRO PR U0 LV Wm 97:=R4 W3 K6 noX 400 ql qk (z9 rfl)
def Xm :RRO PR U0 LV WA 71:=R4 W3 K6 noX 400 vd vb (z9 rfl)
def xB1 :dC PR U0 LV (vC 1 PR):=⟨⟨G7 Xs,rfl⟩,trivial⟩
def Xt :RRO PR U0 LV WS 69:=R4 W3 K6 xB1 400 zf ze (z9 rfl)
def xO :dC PR U0 LV (V8 0 PR):=⟨⟨G7 Xs,rfl⟩,⟨G7 Xh,rfl⟩,⟨G7 Xm,rfl⟩,⟨G7 Xt,rfl⟩,trivial⟩
def stO :O6 PR U0 LV (Ho 0):=⟨LU,B1,trivial⟩
def XV :j2 PR U0 LV Wp 126:=i4 HP stO xO 400 rc ra (z9 rfl)
def Yc :j2 PR U0 LV Wz 130:=i4 HP stO xO 400 uw uv (z9 rfl)
def xK :dC PR U0 LV (Cb 0 PR):=by have h1:=GZ (U:=U0) (ov:=LV) delH rfl;have h2:=Sz (He (U:=U0) (ov:=LV) insH rfl rfl) (by kernel_rfl) rfl;rw[DK]at h1 h2;exact⟨⟨h1,rfl⟩,⟨h2,rfl⟩,xO⟩
def Yj :j2 PR U0 LV WI 27:=i4 yO K6 xK 400 ww wv (z9 rfl)
def Qp :j2 PR U0 LV LE 54:=i4 yO K6 xK 400 tg tf (z9 rfl)
def Yg :j2 PR U0 LV WG 128:=i4 yO K6 xK 400 vz vw (z9 rfl)
def Yn :j2 PR U0 LV VV 61:=i4 PP stO xO 400 yd yc (z9 rfl)
def Yp :j2 PR U0 LV WO 188:=i4 yN stO noX 400 yi yh (z9 rfl)
def Qk :j2 PR U0 LV VX 146:=i4 yN stO noX 400 yq yp (z9 rfl)
def YU :O6 PR U0 LV (CC 1):=⟨Yp,LU,Qk,B1,trivial⟩
def Yt :j2 PR U0 LV WR 148:=i4 yN YU noX 400 za yz (z9 rfl)
def stG :O6 PR U0 LV (NW 0):=⟨Qk,Yt,B1,trivial⟩
def Ym :j2 PR U0 LV WN 89:=i4 PQ stG xO 400 x7 x6 (z9 rfl)
def Xp :RRO PR U0 LV WK 134:=R4 qS K6 xO 400 xe xc (z9 rfl)
def Xg :RRO PR U0 LV Wl 135:=R4 qS K6 xO 400 qi qh (z9 rfl)
def xH1 :dC PR U0 LV (vD 1 PR):=⟨⟨G7 Xp,rfl⟩,xO⟩
def Xl :RRO PR U0 LV Wt 83:=R4 qS K6 xH1 400 se sa (z9 rfl)
def Ep :RRO PR U0 LV fq 50:=R4 qS K6 xO 400 wj wi (z9 rfl)
def Xi :RRO PR U0 LV Id 48:=Pq PS K6 xO 400 EQ qr qq (z9 rfl)
def stM :O6 PR U0 LV (NX 0):=⟨LU,Yo,B1,trivial⟩
def xM :dC PR U0 LV (MV 0 PR):=⟨⟨G7 Xi,rfl⟩,xO⟩
def Xj :RRO PR U0 LV zk 12:=R4 PU stM xM 400 qv qu (z9 rfl)
def Yk :j2 PR U0 LV VT 91:=P8 PW K6 xO 400 zA xp xo (λn=>z9 rfl)
def stP :O6 PR U0 LV (NY 0):=⟨Yk,B1,trivial⟩
def Qn :j2 PR U0 LV VS 46:=i4 PY stP xO 400 xl xk (z9 rfl)
def BB :j2 PR U0 LV jw 136:=i4 jS K6 noX 400 lm li (z9 rfl)
def Ga :j2 PR U0 LV my 137:=i4 jS K6 noX 400 oh og (z9 rfl)
def YR :O6 PR U0 LV (hJ 1):=⟨BB,Ga,B1,trivial⟩
def Yd :j2 PR U0 LV WC 144:=i4 jS YR noX 400 vo vk (z9 rfl)
def YQ :O6 PR U0 LV (hJ 2):=⟨Yd,B1,trivial⟩
def Rn :j2 PR U0 LV nf 88:=P8 jS YQ noX 400 pJ pk pf (λn=>z9 rfl)
def YP :O6 PR U0 LV (hJ 3):=⟨Rn,B1,trivial⟩
def LX :j2 PR U0 LV jy 22:=i4 jS YP noX 400 po pm (z9 rfl)
def Yl :j2 PR U0 LV VU 55:=P8 HQ K6 noX 400 Dy xz xy (λn=>z9 rfl)
def YM :O6 PR U0 LV (Hq 1):=⟨LX,Yl,B1,trivial⟩
def XW :j2 PR U0 LV Wr 15:=i4 HQ YM noX 400 rq rm (z9 rfl)
def zD :j2 PR U0 LV mi 30:=i4 W5 K6 noX 400 ul uk (z9 rfl)
def LY :j2 PR U0 LV ST 132:=i4 W5 K6 noX 400 tw tu (z9 rfl)
def Qq :j2 PR U0 LV Ws 142:=i4 W5 K6 noX 400 rx ru (z9 rfl)
def Mb :j2 PR U0 LV zo 143:=i4 W5 K6 noX 400 oo om (z9 rfl)
def Md :j2 PR U0 LV zm 133:=i4 W5 K6 noX 400 nq np (z9 rfl)
def Qm :j2 PR U0 LV WM 138:=i4 W5 K6 noX 400 xu xr (z9 rfl)
def Ma :j2 PR U0 LV zq 176:=i4 W5 K6 noX 400 ox ow (z9 rfl)
def mh :O6 PR U0 LV (bQ 0):=⟨BB,Ga,zD,LY,Qq,Mb,Md,Qm,Ma,B1,trivial⟩
def Yb :j2 PR U0 LV Wy 140:=i4 W4 mh noX 400 ut ur (z9 rfl)
def YT :O6 PR U0 LV (bQ 1):=⟨BB,Ga,zD,LY,Qq,Mb,Md,Qm,Ma,Yb,B1,trivial⟩
def Ro :j2 PR U0 LV zr 85:=i4 W4 mh noX 400 pc pb (z9 rfl)
def Rm :j2 PR U0 LV zt 86:=i4 W4 YT noX 400 pz py (z9 rfl)
def Rr :j2 PR U0 LV zn 127:=i4 W4 mh noX 400 nv nu (z9 rfl)
def Rp :j2 PR U0 LV zp 131:=i4 W4 mh noX 400 ou ot (z9 rfl)
def Mc :j2 PR U0 LV mz 78:=i4 W4 mh noX 400 ol oi (z9 rfl)
def XY :j2 PR U0 LV Wv 129:=i4 W4 mh noX 400 sn sk (z9 rfl)
def XX :j2 PR U0 LV Wu 87:=i4 W4 mh noX 400 sh sg (z9 rfl)
def LW :j2 PR U0 LV jz 76:=P8 yP K6 noX 400 pI pw pu (λn=>z9 rfl)
def Rq :j2 PR U0 LV mw 82:=P8 yP K6 noX 400 vU oe ny (λn=>z9 rfl)
def YS :O6 PR U0 LV (CE 1):=⟨zD,LY,LW,B1,trivial⟩
def LZ :j2 PR U0 LV ne 79:=i4 yP YS noX 400 oz oy (z9 rfl)
def Xn :RRO PR U0 LV WB 121:=R4 fA K6 noX 400 vh vg (z9 rfl)
def Xo :RRO PR U0 LV WJ 81:=R4 fA K6 noX 400 xa wz (z9 rfl)
def XU :j2 PR U0 LV Wo 122:=i4 fA K6 noX 400 qy qx (z9 rfl)
def Yf :j2 PR U0 LV WE 124:=i4 fA K6 noX 400 vt vr (z9 rfl)
def XQ :j2 PR U0 LV Wn 123:=i4 fA K6 noX 400 qo qn (z9 rfl)
def Ys :j2 PR U0 LV WQ 80:=i4 fA K6 noX 400 yx yw (z9 rfl)
def xX :dC PR U0 LV (MX 0 PR):=⟨⟨G7 Xn,rfl⟩,trivial⟩
def stX :O6 PR U0 LV (NZ 0):=⟨XU,Yf,XQ,Yn,Ym,XV,Yc,Yj,Qp,Yg,Qn,Ro,Rm,Rr,Rp,XX,Mc,XY,LZ,B1,trivial⟩
def YY :j2 PR U0 LV cDo 75:=i4 PZ stX xX 400 Ca zy (z9 rfl)
def xY :dC PR U0 LV (MY 0 PR):=⟨⟨G7 Ep,rfl⟩,⟨G7 Xj,rfl⟩,⟨G7 Xl,rfl⟩,⟨G7 Xg,rfl⟩,⟨G7 Xo,rfl⟩,trivial⟩
def stY :O6 PR U0 LV (Ob 0):=⟨Rq,LX,XW,Ys,B1,trivial⟩
def Xk :RRO PR U0 LV Wq 35:=R4 Qa stY xY 400 rk rh (z9 rfl)
def xg :xj:=by
 unfold xj;rintro i g S fr lv c0 u v y z A B C st N ⟨q,p,j,l,hR0,w0⟩;refine nin (nrn (ndi ⟨q,p,j,l,hR0,w0⟩ λk t a x E sz pn pi pg ch r hL=>?_));have hL:if t9 S i g=true then _ else r=11:=hL
 by_cases hv:t9 S i g=true
 .rw[Tp hv]at hL;obtain⟨_,_,_,_,_,_,_,_,_,_,r0⟩:=hL;refine⟨λ_=>nin (nrn (ndi ⟨q,p,⟨j,l,hR0,w0⟩,hv⟩ λO o=>?_)),λh=>absurd r0 h⟩;obtain⟨c,hc⟩:=hR0.vld.1 hv;obtain⟨s,s1,s2,_⟩:=UW hc;have m:=o j l c ⟨fr,lv,hR0⟩ w0 hc;have pos:0<ln O:=by rw[m,U9 w0 s1 s2];unfold ln;simp
  refine ndi (by omega) (nin (nin (ndi pos (nrn (nrn (ndt λD K n w=>?_))))));obtain⟨d,f,b⟩:=n;obtain⟨c',e⟩:=b.vld.1 hv;rw[e];exact⟨rfl,o D K c' ⟨d,f,b⟩ w e⟩
 .rw[Tn hv]at hL;refine⟨λh=>by omega,λ_=>ndt λD K n w=>?_⟩;obtain⟨d,f,b⟩:=n;cases h:D.at i g with
  |none=>exact⟨hL,rfl⟩|some c=>exact absurd (b.vld.2 ⟨c,h⟩) hv
def RU :RRO PR U0 LV dx oF:=Xr (by kernel_rfl) (by kernel_rfl) (by kernel_rfl) (by kernel_rfl) Ep
def Xq :RRO PR U0 LV WL 13:=R4 Lg K6 (show dC PR U0 LV (Iv 0 PR)from⟨⟨G7 Ep,rfl⟩,⟨G7 RU,rfl⟩,trivial⟩) 400 xh xg (z9 rfl)
def Ql :j2 PR U0 LV zu 14:=i4 Lj (show O6 PR U0 LV (Je 7)from⟨Qp,Qn,B1,trivial⟩) (show dC PR U0 LV (Iz 7 PR)from⟨⟨G7 Ep,rfl⟩,trivial⟩) 400 ya x9 (z9 rfl)
def Yq :j2 PR U0 LV VW 24:=i4 Li (show O6 PR U0 LV (Jd 0)from⟨Ql,B1,trivial⟩) (show dC PR U0 LV (Iy 0 PR)from⟨⟨G7 Ep,rfl⟩,trivial⟩) 400 yl yk (z9 rfl)
def Ye :j2 PR U0 LV WD 28:=i4 V7 K6 noX 400 vq vp (z9 rfl)
def Yr :j2 PR U0 LV WP 29:=i4 V7 (show O6 PR U0 LV (U6 1)from⟨YY,B1,trivial⟩) noX 400 yu yr (z9 rfl)
def XZ :j2 PR U0 LV Ww 32:=i4 V7 (show O6 PR U0 LV (U6 2)from⟨zD,LW,B1,trivial⟩) noX 400 sw su (z9 rfl)
def Qo :j2 PR U0 LV LT 34:=i4 V7 (show O6 PR U0 LV (U6 3)from⟨Mc,LZ,B1,trivial⟩) noX 400 tq tj (z9 rfl)
def Ya :j2 PR U0 LV Wx 33:=i4 V7 (show O6 PR U0 LV (U6 4)from⟨zD,Qo,B1,trivial⟩) noX 400 ue ud (z9 rfl)
def Yi :j2 PR U0 LV WH 31:=i4 V7 K6 noX 400 wo wl (z9 rfl)
def Yh :j2 PR U0 LV YC 6:=i4 Lh (show O6 PR U0 LV (Jc 0)from⟨Ye,Yr,Ql,Yq,zD,XZ,Qo,Ya,Yi,B1,trivial⟩) (show dC PR U0 LV (Iw 0 PR)from⟨⟨G7 Xk,rfl⟩,⟨G7 Xq,rfl⟩,trivial⟩) 400 wd wc (z9 rfl)
def iN :kf PR 74=[.int .u8,.int .u8,.int .u8,.int .u8,.int .u8]:=by kernel_rfl
def Qw :kd1 PR 62= .sl 74:=by kernel_rfl
def Ph :DH PR 3 (.sl 74)=true:=by kernel_rfl
def Dw {P:Aw}{d:Dat}(h:DW P (.int .u8) d):∃n:Int,B8 n/\d= .i n:=by
 cases h with
 |int k n h=>have h1:=h.1;have h2:n<=255:=h.2;exact⟨n,⟨h1,by omega⟩,rfl⟩
def Xv {d:Dat}(h:DW PR (.sl 74) d):∃L:a8,(∀r∈L,O5 r)/\d= .l L:=by
 cases h with
 |sl _ rows hl hz hh=>
  refine⟨rows,λr hr=>?_,rfl⟩;have h3:=hz r hr;rw[iN]at h3;obtain⟨i,hi⟩:=TZ.1 hr
  match r,h3,hi with
  | [a,b,c,d,e],_,hi=>obtain⟨a,f,rfl⟩:=Dw (hh i 0 _ (.int .u8) a hi rfl (by rw[iN];rfl));obtain⟨b,hb,rfl⟩:=Dw (hh i 1 _ (.int .u8) b hi rfl (by rw[iN];rfl));obtain⟨c,hc,rfl⟩:=Dw (hh i 2 _ (.int .u8) c hi rfl (by rw[iN];rfl));obtain⟨d,g,rfl⟩:=Dw (hh i 3 _ (.int .u8) d hi rfl (by rw[iN];rfl));obtain⟨e,he,rfl⟩:=Dw (hh i 4 _ (.int .u8) e hi rfl (by rw[iN];rfl));exact⟨a,b,c,d,e,rfl,f,hb,hc,g,he⟩
variable {W:Bc}{spare:Nat->Bool}{v:Av}{ps:List MemPlace}{r:Reach}
def Lp {H:Type}{enc:Ax×Av->H}{c:Bool}{d:DataW H}(ht:PR.underlying 62=some (.slice 74)){b:Nat}(hv:Value.okWide PR W r b 62 v)(h:DataW.Trod enc PR W 0 spare c 62 v d ps):∃(a:Av) (L:a8),(∀r∈L,O5 r)/\VR (EA W) a v/\ ∀n,VD PR U0 (λ_=>none) (roF W) (.lst 74 (.dat n (.l L)) false) a:=by obtain⟨e,len,cap,rfl⟩:=Go.WideShapes.okWide_slice ht hv;obtain⟨f,a,h1,h2,h3⟩:=OD h (m:=3) (by rw[Qw];exact Ph) rfl;rw[Qw]at h2 h3;obtain⟨L,hL,rfl⟩:=Xv h3;exact⟨a,L,hL,HO h1,λn=>.lst 74 _ false a h2 (λh=>by cases h)⟩
def DU {d e:Ar}(h:M0 d e):∃r,e= .b true::r:=by unfold M0 My at h;split at h;exact⟨_,by rw[h]⟩;exact h.elim
def mdr_walk {H:Type}{enc:Ax×Av->H}{c:Bool}{w:Av}{d e:DataW H}{j:List MemPlace}(hm:PR.follows .mixedOrders=true)(ht:PR.underlying 62=some (.slice 74)){b:Nat}(hv:Value.okWide PR W r b 62 v)(i:Value.okWide PR W r b 62 w)(h:DataW.Trod enc PR W 0 spare c 62 v d ps)(k:DataW.Trod enc PR W 0 spare c 62 w e j):Calls PR 6 #[v,w] W λe w'=>e= .returned (.bool true)/\Below W.heap.size W w':=by obtain⟨a,L,h1,h2,h3⟩:=Lp ht hv h;obtain⟨g,f,k1,k2,k3⟩:=Lp ht i k;exact Gk hm (YL hm) Yh rfl (λd e h=>DU h) (es:=[.dat 0 (.l L),.dat 1 (.l f),.dat 2 (.l [])]) rfl ⟨rfl,h1,k1⟩ (R:= .dat 2 (.l [])) rfl rfl (xs:=[a,g]) (ys:=[v,w]) (VL (h3 0) (VL (k3 1) VM)) (VO h2 (VO k2 (VP _)))
