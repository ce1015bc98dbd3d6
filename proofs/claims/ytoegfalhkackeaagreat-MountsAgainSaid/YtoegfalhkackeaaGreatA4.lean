/- Trees: the condition of alone holds.
  Conditions: none. -/
import Derived.Test.YtoegfalhkackeaaGreatA3
set_option linter.all false
namespace Go.D
open Go Go.Xe Go.Sx
variable {k:Int}
def v7 {α:Type}{l:List α}{a:α}(h0:0<=k)(h:l[k.toNat]? =some a):l.take (k+1).toNat=l.take k.toNat++ [a]:=by rw[fA h0,Z9 h]
def B0 {α:Type}{l:List α}(h:(l.length:Int)<=k):l.take k.toNat=l:=Uk (by omega)
theorem J5 {α c:Type}{f:α->c}{l:List α}{k:Nat}{a:α}(h:l[k]? =some a):(l.map f)[k]? =some (f a):=by grind
def Iq {α:Type}{R:α->α->Prop}{l:List α}(h:l.Pairwise R){i j:Nat}{a b:α}(hi:l[i]? =some a)(hj:l[j]? =some b)(c:i<j):R a b:=by obtain⟨h1,rfl⟩:=Tn.1 hi;obtain⟨h2,rfl⟩:=Tn.1 hj;exact List.pairwise_iff_getElem.1 h i j h1 h2 c
variable {l:List Str}{a b:Str}
theorem LF (h0:0<k)(c:l[k.toNat]? =some a)(hb:l[(k+ -1).toNat]? =some b)(hl:lt b a=true)(h:Asc (l.take k.toNat)):Asc (l.take (k+1).toNat):=by
 unfold Asc at h⊢;rw[v7 (by omega) c,List.pairwise_append];refine⟨h,List.pairwise_singleton _ _,fun x hx y hy=>?_⟩;rw[Uz.1 hy];obtain⟨i,hi⟩:=Uq.1 hx;have d:i<k.toNat:=by have:=(Tn.1 hi).1;rw[TW]at this;omega
 by_cases e:i=(k+ -1).toNat;simp_all;refine nI (Iq h hi (j:=(k+ -1).toNat) ?_ (by omega)) hl;rw[TU,TJ (by omega)];exact hb
def HB (h0:0<k)(c:l[k.toNat]? =some a)(hb:l[(k+ -1).toNat]? =some b)(h:lt a b=true\/a=b):¬Asc l:=fun hp=>by have:=Iq hp hb c (by omega);rcases h with h|h;rw[Mw this]at h;cases h;rw[h,lt_irrefl]at this;cases this
theorem pG (h0:0<=k)(c:l[k.toNat]? =some a)(h:fV (l.take k.toNat))(hn:a=[]\/ ∀z∈l.take k.toNat,z≠a):fV (l.take (k+1).toNat):=by unfold fV at h⊢;rw[v7 h0 c,List.pairwise_append];grind
def Dm {i j:Nat}(hi:l[i]? =some a)(hj:l[j]? =some b)(c:i<j)(hb:b≠ [])(e:a=b):¬fV l:=fun h=>Iq h hi hj c hb e
def at0 (a:Att):a.row.getD 0 (.int 0)= .str a.n:=rfl
def at1 (a:Att):a.row.getD 1 (.int 0)= .str a.v:=rfl
def E5 {p:Prop}(h:¬p):(false=true↔p):=⟨fun e=>(by cases e),fun e=>absurd e h⟩
theorem Mg {α:Type}{l:List α}{j:Int}(h0:0<=j)(h:j<((l.take k.toNat).length:Int)):∃a,l[j.toNat]? =some a/\(l.take k.toNat)[j.toNat]? =some a/\j<k:=by
 rw[TW]at h;have hj:j.toNat<l.length:=by omega
 exact⟨l[j.toNat],Tx hj,by grind,by omega⟩
theorem CF (s:a9)(hk:¬s.k=2)(w:s.k=1)(ht:v5 s.t=true)(hy:s.y=[]\/v5 s.y=true)(x0:Sx.Rows)(e0:x0=[s.row]):vcAlone0 x0:=by
 subst e0;have C:aG s↔(s.x=[]/\s.a.length<=8/\s.c.length<=16/\(∀a∈s.a,v5 a.n=true/\E8 a.v=true)/\Asc (s.a.map Att.n)/\fV (s.c.map a9.y)):=by unfold aG;simp[w,ht,hy]
 have o:∀k:Int,pQ (rows s.c) 0 k=rows (s.c.take k.toNat):=fun k=>by simp[pQ,rows,List.map_take]
 unfold vcAlone0;simp only[Nd,ln,I64,cS,cL,LP,t3,t4,t5,A6,T8,TG,A3,oU,CJ,lH,tU,tP,Mk,J9,E3,L7,aO,jL,Eh,UD,UG,UC,pT,forall_eq',forall_eq,Ux,Uf,ON,eI,C,o];refine TP (fun hx=>TP (fun h=>E5 fun h'=>by omega) fun G=>TP (fun h=>E5 fun h'=>by omega) fun D=>TP ⟨by omega,by omega,by simp,List.Pairwise.nil⟩ fun _ k ⟨k0,k1,k2,k3⟩=>TP (fun hk=>?_) fun hk=>?_) fun hx=>E5 fun h=>hx h.1
 ·obtain⟨a,p⟩:=Sx.get_at k0 hk;have hm:=Tv p;have hn:=J5 (f:=Att.n) p;rw[List.map_take]at k3;simp only[i9 p,at0,at1,A6];have st:v5 a.n=true->E8 a.v=true-> ∀x∈s.a.take (k+1).toNat,v5 x.n=true/\E8 x.v=true:=fun h1 h2 x hx=>by rw[v7 k0 p,TY,Uz]at hx;rcases hx with hx|rfl;exact k2 x hx;exact⟨h1,h2⟩
  by_cases m:0<k
  ·obtain⟨b,hb⟩:=Sx.get_at (T:=s.a) (i:=k+ -1) (by omega) (by omega);have g:=J5 (f:=Att.n) hb;simp only[i9 hb,at0,A6,List.map_take]
   repeat' first| (refine TP ?_ ?_)|intro _
   all_goals first|omega|exact E5 fun h=>absurd (h.2.2.2.1 a hm).1 ‹_› |exact E5 fun h=>absurd (h.2.2.2.1 a hm).2 ‹_› |exact E5 fun h=>HB m hn g (.inl ‹_›) h.2.2.2.2.1|exact E5 fun h=>HB m hn g (.inr ‹_›) h.2.2.2.2.1|exact st ‹_› ‹_› _ ‹_› |exact(st ‹_› ‹_› _ ‹_›).1|exact(st ‹_› ‹_› _ ‹_›).2|exact LF m hn g (FX (by unfold lt;simpa using‹¬Op.bytesLess a.n b.n=true›) ‹_›) k3
  ·obtain rfl:k=0:=by omega
   repeat' first| (refine TP ?_ ?_)|intro _
   all_goals first|omega|exact E5 fun h=>absurd (h.2.2.2.1 a hm).1 ‹_› |exact E5 fun h=>absurd (h.2.2.2.1 a hm).2 ‹_› |exact(st ‹_› ‹_› _ ‹_›).1|exact(st ‹_› ‹_› _ ‹_›).2| (rw[v7 (by omega) p];exact List.pairwise_singleton _ _)
 ·rw[B0 (by omega)]at k2 k3;refine TP ⟨by omega,by omega,List.Pairwise.nil⟩ fun _ j ⟨B,I,u⟩=>TP (fun hj=>?_) fun hj=>?_
  ·obtain⟨c,hc⟩:=Sx.get_at B hj;have hy:=J5 (f:=a9.y) hc;have r:((s.c.take j.toNat).length:Int)=j:=by rw[TW];omega
   simp only[G5 hc,t2,A6,r];have nx:fV ((s.c.map a9.y).take (j+1).toNat)->(¬j+1< -9223372036854775808/\j+1<9223372036854775808)/\(¬j+1< -9223372036854775808/\j+1<9223372036854775808->(0<=j+1/\j+1<=(s.c.length:Int)/\fV ((s.c.map a9.y).take (j+1).toNat))/\(0<=j+1/\j+1<=(s.c.length:Int)/\fV ((s.c.map a9.y).take (j+1).toNat)->((s.c.length:Int)-(j+1)).toNat<((s.c.length:Int)-j).toNat)):=
    fun h=>(by grind)
   refine⟨by omega,fun _=>⟨hj,fun _=>⟨fun he=>nx (pG B hy u (.inl he)),fun he=>⟨by omega,fun _=>⟨by omega,fun _=>⟨⟨by omega,by omega,by simp⟩,fun _ i ⟨i0,H,A⟩=>TP (fun hi=>?_) fun hi=>nx (pG B hy u (.inr ?_))⟩⟩⟩⟩⟩⟩;obtain⟨d,E,q,F⟩:=Mg (l:=s.c) (k:=j) i0 (by omega);simp only[G5 q,t2,A6];refine⟨by omega,fun _=>⟨by omega,fun _=>⟨fun e=>⟨fun h=>by omega,fun _=>E5 fun h=>Dm (J5 E) hy (by omega) he e h.2.2.2.2.2⟩,fun e=>⟨⟨by omega,by omega⟩,fun _=>⟨⟨by omega,by omega,fun z hz=>?_⟩,fun _=>by omega⟩⟩⟩⟩⟩;rw[v7 i0 (J5 q),TY,Uz]at hz;rcases hz with hz|rfl;exact A z hz;exact e;rw[B0 (by grind),List.map_take]at A;exact A
  rw[B0 (by grind)]at u;exact⟨fun _=>⟨hx,by omega,by omega,k2,k3,u⟩,fun _=>by trivial⟩
theorem vcAlone_ok :vcAlone:=by
 rintro _ ⟨s,rfl⟩;have d:=CF s;simp only[Nd,ln,cI,cS,cL,LP,t0,t1,t2,t3,t4,t5,V8,A6,T8,TG,A3,E3,L7,aO,jL,Eh,UD,UG,UC,pT,forall_eq',forall_eq,Ux,Uf];refine⟨fun hk=>?_,fun hk=>⟨fun h1=>⟨fun ht=>⟨fun hy=>d hk h1 ht (.inl hy) _ rfl,fun hy=>⟨fun h2=>d hk h1 ht (.inr h2) _ rfl,fun h2=>E5 fun h=>?_⟩⟩,fun ht=>E5 fun h=>?_⟩,fun h1=>E5 fun h=>?_⟩⟩
 ·have d:aG s↔(E8 s.x=true/\s.t=[]/\s.y=[]/\s.a=[]/\s.c=[]):=by unfold aG;simp[hk]
  simp_all
 all_goals
  rcases h<;>grind
open Go Go.Xe Go.Sx
def B9 (s:a9):J3 s↔aG s/\AllAs s.c:=by cases s;unfold J3;rfl
def T9 (s:a9):s.size=a9.sizes s.c+1:=by cases s;rfl
def V5 (s:a9):s.depth=a9.depths s.c+1:=by cases s;rfl
def iQ (l m:List a9):AllAs (l++m)↔AllAs l/\AllAs m:=by
 induction l with
 |nil=>simp[AllAs]|cons a l b=>simp[AllAs,b,and_assoc]
def dM (l m:List a9):a9.sizes (l++m)=a9.sizes l+a9.sizes m:=by
 induction l with
 |nil=>simp[a9.sizes]|cons a l b=>simp only[a9.sizes,Uw,b];omega
def eB (l m:List a9):a9.depths (l++m)=max (a9.depths l) (a9.depths m):=by
 induction l with
 |nil=>simp[a9.depths]|cons a l b=>simp only[a9.depths,Uw,b];omega
def Er (l:List a9)(k:Nat):a9.sizes (l.take k)<=a9.sizes l:=by rw(occs:= .pos [2]) [<-UX k l];rw[dM];omega
def xX (l:List a9)(k:Nat):a9.depths (l.take k)<=a9.depths l:=by rw(occs:= .pos [2]) [<-UX k l];rw[eB];omega
variable {l:List a9}
def kT (h:AllAs l)(k:Nat):AllAs (l.take k):=by rw[<-UX k l,iQ]at h;exact h.1
theorem Q9 (h:AllAs l){k:Nat}{a:a9}(c:l[k]? =some a):J3 a:=by
 induction l generalizing k with
 |nil=>grind|cons b l d=>cases k with
  |zero=>cases c;exact h.1
  |succ k=>exact d h.2 (by simpa using c)
def NK (s:a9):1<=s.size:=by rw[T9];omega
theorem bB {s:a9}(h:aG s):s.c.length<=16/\s.a.length<=8:=by rcases h<;>grind
def bad {p q:Prop}(h:¬p):(false=true↔p)/\(false=true->q):=⟨E5 h,fun e=>(by cases e)⟩
def Ik (c:a9):a9.sizes [c]=c.size:=by simp[a9.sizes]
def MX (c:a9):a9.depths [c]=c.depth:=by simp[a9.depths]
def vcWalk_ok (n:Nat):vcWalk n:=by
 rintro _ lv n0 z ⟨⟨⟨s,rfl⟩,h1,h2,h3,h4,h5,f⟩,hm⟩;simp only[iK]at hm;simp only[Nd,ln,I64,cL,LP,part1,t5,T8,TG,A3,gI,G0,aA,iK,iL,zS,UD,UG,UC,pT,forall_eq',exists_eq',Ux,Uf];refine⟨⟨by omega,by omega⟩,fun _=>⟨fun j=>?_,fun j=>?_⟩⟩;all_goals
  have p:=T9 s;have o:=V5 s;refine⟨fun h=>⟨by omega,by omega,by omega,by omega,bad fun g=>?_⟩,fun f=>⟨fun h=>⟨by omega,by omega,by omega,by omega,bad fun g=>?_⟩,fun i b hb=>⟨fun e=>⟨⟨by omega,by omega,by omega,by omega,trivial,by simp[a9.sizes],by omega,by simp only[Int.toNat_zero,List.take_zero,a9.depths];omega,by omega,by simp only[Int.toNat_zero,List.take_zero,a9.depths];omega,by omega⟩,fun _ k n' y ⟨k0,_,_,k1,k2,k3,k4,q,D,r,_⟩=>⟨fun hk=>?_,fun hk=>?_⟩⟩,fun e=>⟨by omega,by omega,by omega,by omega,bad fun g=>e (hb.2 ((B9 s).1 g.1).1)⟩⟩⟩⟩;have:=g.2.1;omega;have:=g.2.2;omega;obtain⟨c,hc⟩:=Sx.get_at k0 hk;have:=bB (hb.1 e);have hs1:=Er s.c (k+1).toNat;have hd1:=xX s.c (k+1).toNat;simp only[MZ hc,UD,UG,pT,forall_eq',exists_eq',UC];simp only[v7 k0 hc,dM,Ik,eB,MX]at hs1 hd1⊢;refine⟨by omega,fun _=>⟨hk,fun _=>⟨⟨by omega,by omega⟩,fun _=>⟨⟨⟨by omega,by omega,by omega,by omega,by omega,by omega⟩,by omega⟩,fun _ b' m A ⟨t,u,v,w,a,x⟩=>⟨fun e'=>?_,fun e'=>?_⟩⟩⟩⟩⟩;obtain⟨d,B,C⟩:=a.1 e';obtain⟨E,F⟩:=x e';exact⟨⟨by omega,by omega⟩,fun _=>⟨⟨by omega,by omega,by omega,by omega,(iQ _ _).2 ⟨k2,d,trivial⟩,by omega,by omega,by omega,by omega,by omega,by omega⟩,fun _=>by omega⟩⟩;refine⟨t,u,v,w,bad fun g=>e' (a.2 ⟨Q9 ((B9 s).1 g.1).2 hc,?_,?_⟩)⟩;have:=g.2.1;omega;have:=g.2.2;omega
  ·rw[B0 (by omega)]at k2 k3 q r;have g:Good s lv n0:=⟨(B9 s).2 ⟨hb.1 e,k2⟩,by omega,by omega⟩
   exact⟨by omega,by omega,by omega,by omega,⟨fun _=>g,fun _=>trivial⟩,by omega,by omega⟩
def no14 {p:Prop}(h:¬p):((14:Int)=0↔p):=⟨fun e=>absurd e (by decide),fun e=>absurd e h⟩
def vcChk_ok :vcChk:=by
 rintro _ _ _ _ _ _ ⟨s,rfl,rfl,rfl,rfl,rfl,rfl⟩;have e:pQ (d8 6 1 [(.int s.k),(.str s.t),(.str s.y),(.lst (s.a.map Att.row)),(.str s.x),(.lst (rows s.c))]) 0 1=[s.row]:=by rw[Q3];rfl
 simp only[Nd,e,aA,G0,L3,u9,UD,UG,pT,forall_eq',forall_eq,exists_eq',UC,Ux];refine⟨by omega,fun _ b n d ⟨h1,h2,h3,h4,h5,g⟩=>⟨fun e=>?_,fun e=>⟨no14 fun h=>absurd (h5.2 ⟨h.1,by have:=h.2.2;omega,by have:=h.2.1;omega⟩) e,.inr trivial⟩⟩⟩;obtain⟨f,i,j⟩:=h5.1 e;have:=(g e).1;have:=NK s;exact⟨fun h=>by omega,fun _=>⟨⟨fun _=>⟨f,by omega,by omega⟩,fun _=>trivial⟩,.inl trivial⟩⟩
