/- The reference's Check: the conditions of Name, Str and one hold.
  Conditions: none. -/
import Derived.Test.YtgmiikiinbaapaaGreatW2
set_option linter.all false
namespace Go.D
open Go Go.Xe Go.Sx
theorem vcRname_ok :vcRname:=by
 unfold vcRname vcRname0 Nd;intro s hp;have F:¬(s.length:Int)<1->16<s.length\/s.all iH=true->(!decide (16<(s.length:Int)))=B1 s:=fun h h2=>by by_cases c:16<s.length;rw[gU (.inr c),decide_eq_true (by omega)];rfl;rw[yR (by omega) (by omega) (h2.resolve_left c),QK (by omega)];rfl
 simp only[ln,I64,D3,D1,yH,pH,IA,A7,Qy,QH];refine⟨⟨by omega,by omega,rfl⟩,fun _ k ⟨k0,k1,k2⟩=>⟨fun hk=>⟨fun a=>?_,fun a=>(by grind)⟩,fun hk=>⟨fun h=>(gU (.inl (by omega))).symm,fun h=>F h (.inr (Z2 k2 (by omega)))⟩⟩⟩;obtain⟨b,hb,d⟩:=qL k0 hk
 repeat' first| (refine PM ?_ ?_)|intro _
 all_goals first|omega|exact(yQ (kL hb (xU (by omega)))).symm|exact kM hb k0 k2 (CT (by omega))
def vcRstr_ok :vcRstr:=by
 unfold vcRstr Nd;intro s hp;simp only[ln,I64,I4,J4,Dq,uP,rsMu,A7,Qy,QH];refine⟨fun h=>(DO (by omega)).symm,fun h=>⟨⟨by omega,by omega,rfl⟩,fun _ k ⟨k0,k1,k2⟩=>⟨fun hk=>?_,fun hk=>(DP (by omega) (Z2 k2 (by omega))).symm⟩⟩⟩;obtain⟨b,hb,a⟩:=qL k0 hk
 repeat' first| (refine PM ?_ ?_)|intro _
 all_goals first|omega|exact(vG (kL hb (uS (by omega)))).symm|exact kM hb k0 k2 (HG (by omega) (by omega))
open Go Go.Xe Go.Sx
variable {a:List Att}
def AD {i:Int}:xW [.lst (a.map Att.row)] [.int i]↔0<=i/\i<=(a.length:Int)/\(∀z∈a.take i.toNat,B1 z.n=true/\I0 z.v=true)/\Asc ((a.take i.toNat).map Att.n):=by simp only[xW,ln,PD];exact⟨fun⟨h0,h1,h⟩=>⟨h0,h1,h a rfl⟩,fun⟨h0,h1,h⟩=>⟨h0,h1,fun b e=>by rw[<-R1 e];exact h⟩⟩
def AE {i k:Int}:xZ [.lst (a.map Att.row),.int i] [.int k]↔0<=k/\k<=i/\i<(a.length:Int)/\ ∀z∈a.take k.toNat,lt z.n (a.getD i.toNat ⟨[],[]⟩).n=true:=by simp only[xZ,ln,PD];exact⟨fun⟨h0,h1,h2,h⟩=>⟨h0,h1,h2,h a rfl⟩,fun⟨h0,h1,h2,h⟩=>⟨h0,h1,h2,fun b e=>by rw[<-R1 e];exact h⟩⟩
variable {l:List Att}
theorem Ju {b:Att}(h:Asc (l.map Att.n))(hb:∀z∈l,lt z.n b.n=true):Asc ((l++ [b]).map Att.n):=by unfold Asc at h⊢;grind
def Oj (h:Asc (l.map Att.n)){i k:Nat}{a b:Att}(hk:l[k]? =some a)(hi:l[i]? =some b)(c:k<i):lt a.n b.n=true:=De h (G6 hk) (G6 hi) c
theorem KE (s:c9)(hk:s.k=1)(ht:B1 s.t=true)(hy:s.y=[]\/B1 s.y=true):vcOne0 s.x (s.a.map Att.row) s.k s.t s.y (rows s.c):=by
 have AL:V8 s↔(s.x=[]/\s.a.length<=8/\s.c.length<=16/\(∀a∈s.a,B1 a.n=true/\I0 a.v=true)/\Asc (s.a.map Att.n)/\iP (s.c.map c9.y)):=by constructor;rintro (h|h);omega;exact h.2.2.2;exact fun h=>.inr ⟨hk,ht,hy,h⟩
 have kr:=sK s.c;unfold vcOne0;simp only[Nd,I64,G2,H3,forall_eq,M4,P9,D3,I4,D1,J4,Dr,cS,CV,yA,oaMu,ocMu,KD,In,A7,kr,ln,PD,Qy,QH,QD,Qg];refine⟨fun hx=>⟨fun K=>D4 fun h=>?_,fun K=>⟨fun C=>D4 fun h=>?_,fun C=>⟨AD.2 ⟨by omega,by omega,by simp,by simp[Asc]⟩,fun _ i hi=>⟨fun g=>?_,fun g=>?_⟩⟩⟩⟩,fun hx=>D4 fun h=>hx (AL.1 h).1⟩;have:=(AL.1 h).2.1;omega;have:=(AL.1 h).2.2.1;omega
 ·obtain⟨i0,L,u,w⟩:=AD.1 hi;obtain⟨b,hb⟩:=Sx.get_at i0 g;have p:=Pv hb;have o:s.a.getD i.toNat ⟨[],[]⟩=b:=by rw[PP,hb];rfl
  simp only[i4 hb,at0,at1,C4];refine⟨by omega,fun _=>⟨g,fun _=>⟨fun hn=>⟨by omega,fun _=>⟨g,fun _=>⟨fun hv=>?_,fun hv=>D4 fun h=>hv ((AL.1 h).2.2.2.1 b p).2⟩⟩⟩,fun hn=>D4 fun h=>hn ((AL.1 h).2.2.2.1 b p).1⟩⟩⟩;refine⟨AE.2 ⟨by omega,by omega,g,by simp⟩,fun _ k r=>⟨fun F=>?_,fun F=>?_⟩⟩;obtain⟨k0,k1,k2,k3⟩:=AE.1 r;obtain⟨a,D⟩:=Sx.get_at k0 (show k<(s.a.length:Int) by omega);simp only[i4 D,at0,C4];refine⟨by omega,fun _=>⟨by omega,fun _=>⟨by omega,fun _=>⟨g,fun _=>⟨fun hl=>⟨⟨by omega,by omega⟩,fun _=>⟨AE.2 ⟨by omega,by omega,g,?_⟩,fun _=>by omega⟩⟩,fun hl=>D4 fun h=>hl (Oj (AL.1 h).2.2.2.2.1 D hb (by omega))⟩⟩⟩⟩⟩;rw[p7 k0 D];intro z hz;rcases PZ.1 hz with hz|hz;exact k3 z hz;cases QA.1 hz;rw[o];exact hl
  ·obtain⟨k0,k1,k2,k3⟩:=AE.1 r;have B:k=i:=by omega
   subst B;rw[o]at k3;refine⟨⟨by omega,by omega⟩,fun _=>⟨AD.2 ⟨by omega,by omega,?_,?_⟩,fun _=>by omega⟩⟩;rw[p7 i0 hb];intro z hz;rcases PZ.1 hz with hz|hz;exact u z hz;cases QA.1 hz;exact⟨hn,hv⟩;rw[p7 i0 hb];exact Ju w k3
 ·obtain⟨i0,L,u,w⟩:=AD.1 hi;rw[A6 (by omega)]at u w;refine⟨⟨by omega,by omega,by simp[iP]⟩,fun _ j ⟨J,M,H⟩=>⟨fun hj=>?_,fun hj=>?_⟩⟩
  ·obtain⟨c,hc⟩:=Sx.get_at J hj;have m:=G6 (f:=c9.y) hc;have E:(s.c.map c9.y).getD j.toNat []=c.y:=by rw[PP,m];rfl
   simp only[O2 hc,t2,C4,E];refine⟨⟨by omega,by omega,hj,.inr (by simp)⟩,fun _ k ⟨k0,k1,k2,k3⟩=>⟨fun G=>?_,fun G=>?_⟩⟩;obtain⟨d,I⟩:=Sx.get_at k0 (show k<(s.c.length:Int) by omega);have q:=G6 (f:=c9.y) I;simp only[O2 I,t2,C4];refine⟨by omega,fun _=>⟨hj,fun _=>⟨fun e=>⟨⟨by omega,by omega⟩,fun _=>⟨⟨by omega,by omega,hj,.inl e⟩,fun _=>by omega⟩⟩,fun e=>⟨by omega,fun _=>⟨hj,fun _=>⟨by omega,fun _=>⟨by omega,fun _=>⟨fun A=>D4 fun h=>CM q m (by omega) e A.symm (AL.1 h).2.2.2.2.2,fun A=>⟨⟨by omega,by omega⟩,fun _=>⟨⟨by omega,by omega,hj,.inr fun z hz=>?_⟩,fun _=>by omega⟩⟩⟩⟩⟩⟩⟩⟩⟩⟩;rw[p7 k0 q]at hz;rcases PZ.1 hz with hz|hz;exact(k3.resolve_left e) z hz;cases QA.1 hz;exact fun c=>A c.symm
   ·have B:k=j:=by omega
    subst B;refine⟨⟨by omega,by omega⟩,fun _=>⟨⟨by omega,by omega,nJ J m H k3⟩,fun _=>by omega⟩⟩
  rw[A6 (by grind)]at H;exact⟨fun _=>AL.2 ⟨hx,by omega,by omega,u,w,H⟩,fun _=>trivial⟩
theorem vcOne_ok :vcOne:=by
 rintro _ _ _ _ _ _ ⟨s,rfl,rfl,rfl,rfl,rfl,rfl⟩;have B:=KE s;simp only[Nd,G2,H3,forall_eq,M4,P9,D3,I4,D1,J4,Dr,ln,PD,Qy,QH,QD,Qg];refine⟨fun hk=>?_,fun hk=>⟨fun h1=>⟨fun ht=>⟨fun hy=>B h1 ht (.inl hy),fun hy=>⟨fun h2=>B h1 ht (.inr h2),fun h2=>D4 fun h=>?_⟩⟩,fun ht=>D4 fun h=>?_⟩,fun h1=>D4 fun h=>?_⟩⟩
 ·have b:V8 s↔(I0 s.x=true/\s.t=[]/\s.y=[]/\s.a=[]/\s.c=[]):=by unfold V8;simp[hk]
  simp_all
 all_goals
  rcases h<;>grind
open Go Go.Xe Go.Sx
variable {c:List c9}
def zL {lv i n:Int}:oZ [.lst (rows c),.int lv] [.int i,.int n]↔0<=i/\i<=(c.length:Int)/\1<=lv/\1<=n/\n<=1000+64*lv/\(n<=64↔AllAs (c.take i.toNat)/\(c9.depths (c.take i.toNat):Int)+1<=lv/\c9.sizes (c.take i.toNat)+1<=64)/\(n<=64->n=c9.sizes (c.take i.toNat)+1):=by simp only[oZ,ln,PD,AY,forall_eq']
def Mo {lv i n m:Int}{a:c9}(h:oZ [.lst (rows c),.int lv] [.int i,.int n])(b:c[i.toNat]? =some a)(hn:¬64<n)(r:1<=m)(s:m<=1000+64*(lv+(-1)))(hm:m<=64↔Fits a (lv+(-1)))(d:m<=64->m=a.size):oZ [.lst (rows c),.int lv] [.int (i+1),.int (n+m)]:=by obtain⟨h0,h1,h2,h3,h4,g,p⟩:=zL.1 h;have hi:=(Po.1 b).1;obtain⟨f,l,o⟩:=g.1 (by omega);refine zL.2 ⟨by omega,by omega,h2,by omega,by omega,?_,?_⟩;rw[p7 h0 b,mX,iU,gO,KF,NU];constructor;intro hs;obtain⟨e,j,k⟩:=hm.1 (by omega);refine⟨⟨f,e,trivial⟩,by omega,by omega⟩;rintro ⟨⟨k1,k2,_⟩,k3,q⟩;have:=d (hm.2 ⟨k2,by omega,by omega⟩);omega;intro hs;rw[p7 h0 b,gO,KF];omega
theorem vcRcnt_ok (N:Nat):vcRcnt N:=by
 rintro _ _ _ _ _ _ lv ⟨⟨h0,F,s,rfl,rfl,rfl,rfl,rfl,rfl⟩,l⟩;have l:lv.toNat<N+1:=l;have G:=wX s;have hz:=uM s;have no:∀n:Int,64<n->n<=1000+64*lv-> ¬Fits s lv->S6 [.int s.k,.str s.t,.str s.y,.lst (s.a.map Att.row),.str s.x,.lst (rows s.c),.int lv] [.int n]:=fun n h1 h2 h3=>by refine⟨by omega,h2,fun a e=>?_⟩;rw[H3]at e;grind
 simp only[Nd,G2,H3,forall_eq,I64];refine⟨fun hl=>⟨no _ (by omega) (by omega) fun f=>by have:=f.2.1;omega,fun _=>trivial⟩,fun hl=>⟨⟨s,rfl,rfl,rfl,rfl,rfl,rfl⟩,fun _ b hb=>⟨fun q=>?_,fun p=>⟨no _ (by omega) (by omega) fun f=>p (hb.2 ((J7 s).1 f.1).1),fun _=>trivial⟩⟩⟩⟩;have j:=hb.1 q;have u:=(kN j).1;refine⟨zL.2 ⟨by omega,by omega,by omega,by omega,by omega,by simp[AllAs,c9.depths,c9.sizes];omega,by simp[c9.sizes]⟩,fun _ i n hi=>?_⟩;obtain⟨i0,H,I,w,r,o,z⟩:=zL.1 hi;have E:ln (rows s.c)=(s.c.length:Int):=by grind
 simp only[E];refine⟨fun g=>⟨fun d=>⟨no n d r fun f=>?_,fun _=>trivial⟩,fun d=>?_⟩,fun g=>⟨?_,fun _=>trivial⟩⟩;have v:=((J7 s).1 f.1).2;have:=wY s.c i.toNat;have:=Dz s.c i.toNat;have:=o.2 ⟨Ev v _,by have:=f.2.1;omega,by have:=f.2.2;omega⟩;omega;obtain⟨a,e⟩:=Sx.get_at i0 g;simp only[cI,cS,cL,O2 e,t0,t1,t2,t3,t4,t5,gT,C4,bD,S6,gI,nX,H3,forall_eq,exists_eq,QH];refine⟨by omega,fun _=>⟨g,fun _=>⟨⟨by omega,by omega⟩,fun _=>⟨(by grind),fun _ m ⟨A,B,C,D⟩=>⟨⟨by omega,by omega⟩,fun _=>⟨⟨by omega,by omega⟩,fun _=>⟨Mo hi e d A B C D,fun _=>⟨?_,fun _=>trivial⟩⟩⟩⟩⟩⟩⟩⟩;show(((rows s.c).length:Int)-(i+1)).toNat<(((rows s.c).length:Int)-i).toNat;rw[PD];omega;rw[A6 (by omega)]at o z;refine⟨w,r,fun a e=>?_⟩;rw[H3]at e;subst e;refine⟨⟨fun h=>?_,fun f=>?_⟩,fun h=>by omega⟩;obtain⟨k1,k2,k3⟩:=o.1 h;exact⟨(J7 _).2 ⟨j,k1⟩,by omega,by omega⟩;exact o.2 ⟨((J7 _).1 f.1).2,by have:=f.2.1;omega,by have:=f.2.2;omega⟩
theorem vcRchk_ok :vcRchk:=by
 rintro _ _ _ _ _ _ ⟨s,rfl,rfl,rfl,rfl,rfl,rfl⟩;simp only[Nd,S6,gI,S5,R4,H3,forall_eq,exists_eq,QH,Qy];have V:Fits s 6↔W0 s:=⟨fun f=>⟨f.1,f.2.2,by have:=f.2.1;omega⟩,fun v=>⟨v.1,by have:=v.2.2;omega,v.2.1⟩⟩
 grind
