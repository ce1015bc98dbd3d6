/- Trees: the condition of alone holds.
  Conditions: none. -/
import Derived.Test.YtoegfalhkackeaaGreatA3
set_option linter.all false
namespace Go.D
open Go Go.Xe Go.Sx
variable {k:Int}
def B3 {α:Type}{l:List α}{a:α}(h0:0<=k)(h:l[k.toNat]? =some a):l.take (k+1).toNat=l.take k.toNat++ [a]:=by rw[eC h0,Y8 h]
def F7 {α:Type}{l:List α}(h:(l.length:Int)<=k):l.take k.toNat=l:=RK (by omega)
theorem Y0 {α c:Type}{f:α->c}{l:List α}{k:Nat}{a:α}(h:l[k]? =some a):(l.map f)[k]? =some (f a):=by grind
def Ht {α:Type}{R:α->α->Prop}{l:List α}(h:l.Pairwise R){i j:Nat}{a b:α}(hi:l[i]? =some a)(hj:l[j]? =some b)(c:i<j):R a b:=by obtain⟨h1,rfl⟩:=QL.1 hi;obtain⟨h2,rfl⟩:=QL.1 hj;exact List.pairwise_iff_getElem.1 h i j h1 h2 c
variable {l:List Str}{a b:Str}
theorem Kg (h0:0<k)(c:l[k.toNat]? =some a)(hb:l[(k+ -1).toNat]? =some b)(hl:lt b a=true)(h:Asc (l.take k.toNat)):Asc (l.take (k+1).toNat):=by
 unfold Asc at h⊢;rw[B3 (by omega) c,List.pairwise_append];refine⟨h,List.pairwise_singleton _ _,fun x hx y hy=>?_⟩;rw[Se.1 hy];obtain⟨i,hi⟩:=RR.1 hx;have d:i<k.toNat:=by have:=(QL.1 hi).1;rw[Ru]at this;omega
 by_cases e:i=(k+ -1).toNat;simp_all;refine mL (Ht h hi (j:=(k+ -1).toNat) ?_ (by omega)) hl;rw[Rs,Rh (by omega)];exact hb
def GN (h0:0<k)(c:l[k.toNat]? =some a)(hb:l[(k+ -1).toNat]? =some b)(h:lt a b=true\/a=b):¬Asc l:=fun hp=>by have:=Ht hp hb c (by omega);rcases h with h|h;rw[KY this]at h;cases h;rw[h,lt_irrefl]at this;cases this
theorem oM (h0:0<=k)(c:l[k.toNat]? =some a)(h:jT (l.take k.toNat))(hn:a=[]\/ ∀z∈l.take k.toNat,z≠a):jT (l.take (k+1).toNat):=by unfold jT at h⊢;rw[B3 h0 c,List.pairwise_append];grind
def CK {i j:Nat}(hi:l[i]? =some a)(hj:l[j]? =some b)(c:i<j)(hb:b≠ [])(e:a=b):¬jT l:=fun h=>Ht h hi hj c hb e
def at0 (a:Att):a.row.getD 0 (.int 0)= .str a.n:=rfl
def at1 (a:Att):a.row.getD 1 (.int 0)= .str a.v:=rfl
def D9 {p:Prop}(h:¬p):(false=true↔p):=⟨fun e=>(by cases e),fun e=>absurd e h⟩
theorem KH {α:Type}{l:List α}{j:Int}(h0:0<=j)(h:j<((l.take k.toNat).length:Int)):∃a,l[j.toNat]? =some a/\(l.take k.toNat)[j.toNat]? =some a/\j<k:=by
 rw[Ru]at h;have hj:j.toNat<l.length:=by omega
 exact⟨l[j.toNat],QV hj,by grind,by omega⟩
theorem Cf (s:a9)(hk:¬s.k=2)(w:s.k=1)(ht:C9 s.t=true)(hy:s.y=[]\/C9 s.y=true)(x0:Sx.Rows)(e0:x0=[s.row]):vcAlone0 x0:=by
 subst e0;have C:Z5 s↔(s.x=[]/\s.a.length<=8/\s.c.length<=16/\(∀a∈s.a,C9 a.n=true/\N9 a.v=true)/\Asc (s.a.map Att.n)/\jT (s.c.map a9.y)):=by unfold Z5;simp[w,ht,hy]
 have o:∀k:Int,pQ (rows s.c) 0 k=rows (s.c.take k.toNat):=fun k=>by simp[pQ,rows,List.map_take]
 unfold vcAlone0;simp only[Nd,ln,I64,cS,cL,Kq,t3,t4,t5,C5,V2,Rc,z9,oB,Cm,kH,sY,sR,KO,N0,D6,J9,aA,iP,Du,Sj,Sq,Si,oV,forall_eq',forall_eq,Sc,RD,MX,sX,C,o];refine Ro (fun hx=>Ro (fun h=>D9 fun h'=>by omega) fun G=>Ro (fun h=>D9 fun h'=>by omega) fun D=>Ro ⟨by omega,by omega,by simp,List.Pairwise.nil⟩ fun _ k ⟨k0,k1,k2,k3⟩=>Ro (fun hk=>?_) fun hk=>?_) fun hx=>D9 fun h=>hx h.1
 ·obtain⟨a,p⟩:=Sx.get_at k0 hk;have hm:=QT p;have hn:=Y0 (f:=Att.n) p;rw[List.map_take]at k3;simp only[l6 p,at0,at1,C5];have st:C9 a.n=true->N9 a.v=true-> ∀x∈s.a.take (k+1).toNat,C9 x.n=true/\N9 x.v=true:=fun h1 h2 x hx=>by rw[B3 k0 p,Rw,Se]at hx;rcases hx with hx|rfl;exact k2 x hx;exact⟨h1,h2⟩
  by_cases m:0<k
  ·obtain⟨b,hb⟩:=Sx.get_at (T:=s.a) (i:=k+ -1) (by omega) (by omega);have g:=Y0 (f:=Att.n) hb;simp only[l6 hb,at0,C5,List.map_take]
   repeat' first| (refine Ro ?_ ?_)|intro _
   all_goals first|omega|exact D9 fun h=>absurd (h.2.2.2.1 a hm).1 ‹_› |exact D9 fun h=>absurd (h.2.2.2.1 a hm).2 ‹_› |exact D9 fun h=>GN m hn g (.inl ‹_›) h.2.2.2.2.1|exact D9 fun h=>GN m hn g (.inr ‹_›) h.2.2.2.2.1|exact st ‹_› ‹_› _ ‹_› |exact(st ‹_› ‹_› _ ‹_›).1|exact(st ‹_› ‹_› _ ‹_›).2|exact Kg m hn g (Ff (by unfold lt;simpa using‹¬Op.bytesLess a.n b.n=true›) ‹_›) k3
  ·obtain rfl:k=0:=by omega
   repeat' first| (refine Ro ?_ ?_)|intro _
   all_goals first|omega|exact D9 fun h=>absurd (h.2.2.2.1 a hm).1 ‹_› |exact D9 fun h=>absurd (h.2.2.2.1 a hm).2 ‹_› |exact(st ‹_› ‹_› _ ‹_›).1|exact(st ‹_› ‹_› _ ‹_›).2| (rw[B3 (by omega) p];exact List.pairwise_singleton _ _)
 ·rw[F7 (by omega)]at k2 k3;refine Ro ⟨by omega,by omega,List.Pairwise.nil⟩ fun _ j ⟨B,I,u⟩=>Ro (fun hj=>?_) fun hj=>?_
  ·obtain⟨c,hc⟩:=Sx.get_at B hj;have hy:=Y0 (f:=a9.y) hc;have r:((s.c.take j.toNat).length:Int)=j:=by rw[Ru];omega
   simp only[L2 hc,t2,C5,r];have nx:jT ((s.c.map a9.y).take (j+1).toNat)->(¬j+1< -9223372036854775808/\j+1<9223372036854775808)/\(¬j+1< -9223372036854775808/\j+1<9223372036854775808->(0<=j+1/\j+1<=(s.c.length:Int)/\jT ((s.c.map a9.y).take (j+1).toNat))/\(0<=j+1/\j+1<=(s.c.length:Int)/\jT ((s.c.map a9.y).take (j+1).toNat)->((s.c.length:Int)-(j+1)).toNat<((s.c.length:Int)-j).toNat)):=
    fun h=>(by grind)
   refine⟨by omega,fun _=>⟨hj,fun _=>⟨fun he=>nx (oM B hy u (.inl he)),fun he=>⟨by omega,fun _=>⟨by omega,fun _=>⟨⟨by omega,by omega,by simp⟩,fun _ i ⟨i0,H,A⟩=>Ro (fun hi=>?_) fun hi=>nx (oM B hy u (.inr ?_))⟩⟩⟩⟩⟩⟩;obtain⟨d,E,q,F⟩:=KH (l:=s.c) (k:=j) i0 (by omega);simp only[L2 q,t2,C5];refine⟨by omega,fun _=>⟨by omega,fun _=>⟨fun e=>⟨fun h=>by omega,fun _=>D9 fun h=>CK (Y0 E) hy (by omega) he e h.2.2.2.2.2⟩,fun e=>⟨⟨by omega,by omega⟩,fun _=>⟨⟨by omega,by omega,fun z hz=>?_⟩,fun _=>by omega⟩⟩⟩⟩⟩;rw[B3 i0 (Y0 q),Rw,Se]at hz;rcases hz with hz|rfl;exact A z hz;exact e;rw[F7 (by grind),List.map_take]at A;exact A
  rw[F7 (by grind)]at u;exact⟨fun _=>⟨hx,by omega,by omega,k2,k3,u⟩,fun _=>by trivial⟩
theorem vcAlone_ok :vcAlone:=by
 rintro _ ⟨s,rfl⟩;have d:=Cf s;simp only[Nd,ln,cI,cS,cL,Kq,t0,t1,t2,t3,t4,t5,Z4,C5,V2,Rc,z9,D6,J9,aA,iP,Du,Sj,Sq,Si,oV,forall_eq',forall_eq,Sc,RD];refine⟨fun hk=>?_,fun hk=>⟨fun h1=>⟨fun ht=>⟨fun hy=>d hk h1 ht (.inl hy) _ rfl,fun hy=>⟨fun h2=>d hk h1 ht (.inr h2) _ rfl,fun h2=>D9 fun h=>?_⟩⟩,fun ht=>D9 fun h=>?_⟩,fun h1=>D9 fun h=>?_⟩⟩
 ·have d:Z5 s↔(N9 s.x=true/\s.t=[]/\s.y=[]/\s.a=[]/\s.c=[]):=by unfold Z5;simp[hk]
  simp_all
 all_goals
  rcases h<;>grind
open Go Go.Xe Go.Sx
def H2 (s:a9):U7 s↔Z5 s/\AllAs s.c:=by cases s;unfold U7;rfl
def V3 (s:a9):s.size=a9.sizes s.c+1:=by cases s;rfl
def xC (s:a9):s.depth=a9.depths s.c+1:=by cases s;rfl
def nX (l m:List a9):AllAs (l++m)↔AllAs l/\AllAs m:=by
 induction l with
 |nil=>simp[AllAs]|cons a l b=>simp[AllAs,b,and_assoc]
def T8 (l m:List a9):a9.sizes (l++m)=a9.sizes l+a9.sizes m:=by
 induction l with
 |nil=>simp[a9.sizes]|cons a l b=>simp only[a9.sizes,RZ,b];omega
def jY (l m:List a9):a9.depths (l++m)=max (a9.depths l) (a9.depths m):=by
 induction l with
 |nil=>simp[a9.depths]|cons a l b=>simp only[a9.depths,RZ,b];omega
def DF (l:List a9)(k:Nat):a9.sizes (l.take k)<=a9.sizes l:=by rw(occs:= .pos [2]) [<-SP k l];rw[T8];omega
def xD (l:List a9)(k:Nat):a9.depths (l.take k)<=a9.depths l:=by rw(occs:= .pos [2]) [<-SP k l];rw[jY];omega
variable {l:List a9}
def jR (h:AllAs l)(k:Nat):AllAs (l.take k):=by rw[<-SP k l,nX]at h;exact h.1
theorem bU (h:AllAs l){k:Nat}{a:a9}(c:l[k]? =some a):U7 a:=by
 induction l generalizing k with
 |nil=>grind|cons b l d=>cases k with
  |zero=>cases c;exact h.1
  |succ k=>exact d h.2 (by simpa using c)
def Mc (s:a9):1<=s.size:=by rw[V3];omega
theorem hM {s:a9}(h:Z5 s):s.c.length<=16/\s.a.length<=8:=by rcases h<;>grind
def bad {p q:Prop}(h:¬p):(false=true↔p)/\(false=true->q):=⟨D9 h,fun e=>(by cases e)⟩
def LB (c:a9):a9.sizes [c]=c.size:=by simp[a9.sizes]
def Pe (c:a9):a9.depths [c]=c.depth:=by simp[a9.depths]
def vcWalk_ok (n:Nat):vcWalk n:=by
 rintro _ lv n0 z ⟨⟨⟨s,rfl⟩,h1,h2,h3,h4,D,f⟩,hm⟩;simp only[gV]at hm;simp only[Nd,ln,I64,cL,Kq,part1,t5,V2,Rc,z9,fN,E6,Y9,gV,gW,zA,Sj,Sq,Si,oV,forall_eq',exists_eq',Sc,RD];refine⟨⟨by omega,by omega⟩,fun _=>⟨fun j=>?_,fun j=>?_⟩⟩;all_goals
  have p:=V3 s;have o:=xC s;refine⟨fun h=>⟨by omega,by omega,by omega,by omega,bad fun g=>?_⟩,fun f=>⟨fun h=>⟨by omega,by omega,by omega,by omega,bad fun g=>?_⟩,fun i b hb=>⟨fun e=>⟨⟨by omega,by omega,by omega,by omega,trivial,by simp[a9.sizes],by omega,by simp only[Int.toNat_zero,List.take_zero,a9.depths];omega,by omega,by simp only[Int.toNat_zero,List.take_zero,a9.depths];omega,by omega⟩,fun _ k n' y ⟨k0,_,_,k1,k2,k3,E,q,F,r,_⟩=>⟨fun hk=>?_,fun hk=>?_⟩⟩,fun e=>⟨by omega,by omega,by omega,by omega,bad fun g=>e (hb.2 ((H2 s).1 g.1).1)⟩⟩⟩⟩;have:=g.2.1;omega;have:=g.2.2;omega;obtain⟨c,hc⟩:=Sx.get_at k0 hk;have:=hM (hb.1 e);have hs1:=DF s.c (k+1).toNat;have hd1:=xD s.c (k+1).toNat;simp only[LD hc,Sj,Sq,oV,forall_eq',exists_eq',Si];simp only[B3 k0 hc,T8,LB,jY,Pe]at hs1 hd1⊢;refine⟨by omega,fun _=>⟨hk,fun _=>⟨⟨by omega,by omega⟩,fun _=>⟨⟨⟨by omega,by omega,by omega,by omega,by omega,by omega⟩,by omega⟩,fun _ b' m A ⟨t,u,v,w,a,x⟩=>⟨fun e'=>?_,fun e'=>?_⟩⟩⟩⟩⟩;obtain⟨d,B,C⟩:=a.1 e';obtain⟨G,H⟩:=x e';exact⟨⟨by omega,by omega⟩,fun _=>⟨⟨by omega,by omega,by omega,by omega,(nX _ _).2 ⟨k2,d,trivial⟩,by omega,by omega,by omega,by omega,by omega,by omega⟩,fun _=>by omega⟩⟩;refine⟨t,u,v,w,bad fun g=>e' (a.2 ⟨bU ((H2 s).1 g.1).2 hc,?_,?_⟩)⟩;have:=g.2.1;omega;have:=g.2.2;omega
  ·rw[F7 (by omega)]at k2 k3 q r;have g:Good s lv n0:=⟨(H2 s).2 ⟨hb.1 e,k2⟩,by omega,by omega⟩
   exact⟨by omega,by omega,by omega,by omega,⟨fun _=>g,fun _=>trivial⟩,by omega,by omega⟩
def no14 {p:Prop}(h:¬p):((14:Int)=0↔p):=⟨fun e=>absurd e (by decide),fun e=>absurd e h⟩
def vcChk_ok :vcChk:=by
 rintro _ _ _ _ _ _ ⟨s,rfl,rfl,rfl,rfl,rfl,rfl⟩;have e:pQ (d8 6 1 [(.int s.k),(.str s.t),(.str s.y),(.lst (s.a.map Att.row)),(.str s.x),(.lst (rows s.c))]) 0 1=[s.row]:=by rw[O2];rfl
 simp only[Nd,e,Y9,E6,J7,y6,Sj,Sq,oV,forall_eq',forall_eq,exists_eq',Si,Sc];refine⟨by omega,fun _ b n d ⟨h1,h2,h3,h4,f,i⟩=>⟨fun e=>?_,fun e=>⟨no14 fun h=>absurd (f.2 ⟨h.1,by have:=h.2.2;omega,by have:=h.2.1;omega⟩) e,.inr trivial⟩⟩⟩;obtain⟨g,j,m⟩:=f.1 e;have:=(i e).1;have:=Mc s;exact⟨fun h=>by omega,fun _=>⟨⟨fun _=>⟨g,by omega,by omega⟩,fun _=>trivial⟩,.inl trivial⟩⟩
