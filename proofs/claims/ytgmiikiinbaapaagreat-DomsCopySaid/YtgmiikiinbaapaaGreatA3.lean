/- Trees: plain lemmas; the conditions of named, text and alone hold.
  Conditions: none. -/
import Derived.Test.YtgmiikiinbaapaaGreatA2
set_option linter.all false
namespace Go.D
open Go Go.Xe Go.Sx
variable {s:Str}
theorem rU {k:Int}(h0:0<=k)(h1:k<(s.length:Int)):∃b,s[k.toNat]? =some b/\byteAt s k=b.toNat:=by obtain⟨b,hb⟩:=Sx.get_at h0 h1;refine⟨b,hb,?_⟩;unfold byteAt;grind
variable {p:UInt8->Bool}{k:Nat}{b:UInt8}
theorem lY (h:s[k]? =some b)(hb:p b=false):s.all p=false:=by grind
theorem lZ {k:Int}(h:s[k.toNat]? =some b)(h0:0<=k)(a:(s.take k.toNat).all p=true)(hb:p b=true):(s.take (k+1).toNat).all p=true:=by rw[dY h0,K1 h,List.all_append,a];grind
def DE (h:(97<=b.toNat/\b.toNat<=122)\/(48<=b.toNat/\b.toNat<=57)):jN b=true:=by unfold jN;simp;exact h
def zH (h:¬((97<=b.toNat/\b.toNat<=122)\/(48<=b.toNat/\b.toNat<=57))):jN b=false:=by
 cases hb:jN b with
 |false=>rfl|true=>unfold jN at hb;simp at hb;exact absurd hb h
def Ap (h:s.all jN=false):C2 s=false:=by unfold C2;rw[h];simp
theorem iS (h:s.length<1\/16<s.length):C2 s=false:=by unfold C2;grind
theorem AA (h0:1<=s.length)(h1:s.length<=16)(h:s.all jN=true):C2 s=true:=by unfold C2;grind
def aQ {k:Int}(h:(s.take k.toNat).all p=true)(hk:(s.length:Int)<=k):s.all p=true:=by rwa[RA (by omega)]at h
def vcNamed_ok :vcNamed:=by
 unfold vcNamed vcNamed0 Nd;intro s hp;simp only[ln,I64,E4,qR,LA,B6,RP,Sa];refine Rc (fun h=>(iS (.inl (by omega))).symm) fun h=>Rc (fun h2=>(iS (.inr (by omega))).symm) fun h2=>Rc ⟨by omega,by omega,rfl⟩ fun _ k ⟨k0,k1,k2⟩=>Rc (fun hk=>?_) fun hk=>?_
 ·obtain⟨b,hb,a⟩:=rU k0 hk
  repeat' first| (refine Rc ?_ ?_)|intro _
  all_goals first|omega|exact(Ap (lY hb (zH (by omega)))).symm|exact lZ hb k0 k2 (DE (by omega))
 exact(AA (by omega) (by omega) (aQ k2 (by omega))).symm
def Iv (h0:32<=b.toNat)(h1:b.toNat<=126):Et b=true:=by unfold Et;rw[decide_eq_true h0,decide_eq_true h1];rfl
theorem wH (h:b.toNat<32\/126<b.toNat):Et b=false:=by unfold Et;grind
def wR (h:s.all Et=false):J5 s=false:=by unfold J5;rw[h];simp
def Ez (h:64<s.length):J5 s=false:=by unfold J5;rw[Sd (by omega)];rfl
def EA (h1:s.length<=64)(h:s.all Et=true):J5 s=true:=by unfold J5;rw[decide_eq_true h1,h];rfl
theorem Do (h:s[k]? =some b):(⟨s.toArray⟩:ByteArray).get! (k+0)=b:=by show s.toArray[k+0]! =b;grind
theorem Gu (h:s[k]? =some b)(hb:b.toNat<128):runeAt s k=b.toNat/\runeW s k=1:=by
 have a:Utf8.decode ⟨s.toArray⟩ k=(b.toNat,1):=by simp only[Utf8.decode,Do h];grind
 unfold runeAt runeW;grind
theorem Gt (h:s[k]? =some b)(hb:128<=b.toNat):128<=runeAt s k:=by
 have a:128<=(Utf8.decode ⟨s.toArray⟩ k).1:=by simp only[Utf8.decode,Do h];rw[QU (by omega)];split;split;grind;decide;split;split;grind;decide;split;split;grind;decide;decide
 unfold runeAt;grind
def vcText_ok :vcText:=by
 unfold vcText Nd;intro s hp;simp only[ln,L5,wF,stMu,B6,RP,Sa,RV,Rv];refine Rc (fun h=>(Ez (by omega)).symm) fun h=>Rc ⟨by omega,by omega,rfl⟩ fun _ k ⟨k0,k1,k2⟩=>Rc (fun hk=>?_) fun hk=>(EA (by omega) (aQ k2 (by omega))).symm;obtain⟨b,hb,f⟩:=rU k0 hk;have e:((k.toNat:Nat):Int)=k:=by omega
 have d:decide (k<0)=false:=Sd (by omega);rw[d];by_cases a:b.toNat<128
 ·obtain⟨r1,c⟩:=Gu hb a;rw[e]at r1 c;rw[r1,c]
  repeat' first| (refine Rc ?_ ?_)|intro _
  all_goals first|omega|exact(wR (lY hb (wH (by omega)))).symm|exact lZ hb k0 k2 (Iv (by omega) (by omega))
 ·have r1:=Gt hb (by omega);rw[e]at r1
  repeat' first| (refine Rc ?_ ?_)|intro _
  all_goals first|omega|exact(wR (lY hb (wH (by omega)))).symm
def lt_irrefl :∀a:Str,lt a a=false
 | []=>rfl|a::x=>by have:=lt_irrefl x;unfold lt at this⊢;simp[Op.bytesLess,this]
theorem mO :∀ {a b c:Str},lt a b=true->lt b c=true->lt a c=true
 |_,[],_,h,_=>by unfold lt at h;cases‹Ae› <;>simp[Op.bytesLess]at h
 |_,_::_,[],_,h=>by unfold lt at h;simp[Op.bytesLess]at h| [],_::_,_::_,_,_=>rfl|a::x,b::y,c::z,h,k=>by unfold lt at h k⊢;simp only[Op.bytesLess,Se,QV,QB,beq_iff_eq]at h k⊢;rcases h with h| ⟨rfl,h⟩;grind;rcases k with k| ⟨rfl,k⟩;grind;exact .inr ⟨rfl,mO h k⟩
theorem Bn :∀ {a b:Str},lt a b=false->a≠b->lt b a=true
 | [],[],_,h=>absurd rfl h| [],b::y,h,_=>by unfold lt at h;simp[Op.bytesLess]at h|a::x,[],_,_=>rfl|a::x,b::y,h,k=>by unfold lt at h⊢;simp only[Op.bytesLess,SO,Rz,Bool.and_eq_false_iff,Se,QV,QB,beq_iff_eq]at h⊢;by_cases e:a=b;subst e;refine .inr ⟨rfl,Bn (by rcases h.2 with h2|h2;simp at h2;exact h2) fun e=>k (by grind)⟩;grind
def uF {a b:Str}(h:lt a b=true):lt b a=false:=by
 cases hb:lt b a with
 |false=>rfl|true=>have:=mO h hb;rw[lt_irrefl]at this;cases this
def V4 (s:d8):s.row=[.int s.k,.str s.t,.str s.y,.lst (s.a.map Att.row),.str s.x,.lst (rows s.c)]:=by
 have h:∀l:List d8,d8.rows l=rows l:=fun l=>by induction l with|nil=>rfl|cons a l d=>simp[d8.rows,rows,d]
 cases s;simp[d8.row,d8.k,d8.t,d8.y,d8.a,d8.x,d8.c,h]
theorem U2 {a b:List Att}(h:a.map Att.row=b.map Att.row):a=b:=by
 have e:∀l:List Att,(l.map Att.row).map atOf=l:=fun l=>by rw[List.map_map];exact List.map_id' l
 grind
mutual
def row_inj :∀ {s t:d8},s.row=t.row->s=t
 | .mk ..,.mk ..,h=>by simp only[d8.row,RW,Dat.int.injEq,Dat.str.injEq,Dat.lst.injEq,Sa]at h;obtain⟨rfl,rfl,rfl,h1,rfl,h2⟩:=h;rw[U2 h1,rows_inj h2]
def rows_inj :∀ {l m:List d8},d8.rows l=d8.rows m->l=m
 | [],[],_=>rfl| [],_::_,h=>by cases h
 |_::_,[],h=>by cases h
 |s::l,t::m,h=>by simp only[d8.rows,RW]at h;rw[row_inj h.1,rows_inj h.2]
end
def vK {s t:d8}:(s.row=t.row)=(s=t):=propext ⟨row_inj,fun h=>h▸rfl⟩
theorem BL {l m:List d8}:(rows l=rows m)=(l=m):=propext ⟨fun h=>by
 induction l generalizing m with
 |nil=>simp_all|cons a l c=>cases m with|nil=>cases h|cons b m=>simp at h;rw[row_inj h.1,c h.2],fun h=>h▸rfl⟩
def Nm (l:List Att):ats (l.map Att.row)=l:=by unfold ats;rw[List.map_map];exact List.map_id' l
def Ew {s t:d8}(h0:s.k=t.k)(h1:s.t=t.t)(h2:s.y=t.y)(h3:s.a=t.a)(h4:s.x=t.x)(d:s.c=t.c):s=t:=by cases s;cases t;subst h0 h1 h2 h3 h4 d;rfl
def I8 {s c:d8}:isT s c.k c.t c.y (c.a.map Att.row) c.x (rows c.c)=(s=c):=propext ⟨fun⟨h0,h1,h2,h3,h4,d⟩=>Ew h0.symm h1.symm h2.symm (U2 h3).symm h4.symm (BL.mp d).symm,fun h=>by subst h;exact⟨rfl,rfl,rfl,rfl,rfl,rfl⟩⟩
def t0 (c:d8):c.row.getD 0 (.int 0)= .int c.k:=by rw[V4];rfl
def t1 (c:d8):c.row.getD 1 (.int 0)= .str c.t:=by rw[V4];rfl
def t2 (c:d8):c.row.getD 2 (.int 0)= .str c.y:=by rw[V4];rfl
def t3 (c:d8):c.row.getD 3 (.int 0)= .lst (c.a.map Att.row):=by rw[V4];rfl
def t4 (c:d8):c.row.getD 4 (.int 0)= .str c.x:=by rw[V4];rfl
def t5 (c:d8):c.row.getD 5 (.int 0)= .lst (rows c.c):=by rw[V4];rfl
def KB (r:Ar)(j:Nat):p8 [r] 0 j=r.getD j (.int 0):=rfl
def part1 (r:Ar):pQ [r] 0 1=[r]:=rfl
def Q8 {l:List d8}{i:Int}{c:d8}(h:l[i.toNat]? =some c)(j:Nat):p8 (rows l) i j=c.row.getD j (.int 0):=c9 h j
def tY (l:List d8):qN (rows l)=l.map d8.y:=by unfold qN rows;rw[List.map_map];exact List.map_congr_left fun c _=>by simp only[Function.comp,t2,D6]
theorem LM {l:List d8}{i:Int}{c:d8}(h:l[i.toNat]? =some c):pQ (rows l) i 1=[c.row]:=by
 unfold pQ rows;have:=(QD.1 h)
 rw[List.drop_eq_getElem_cons (by grind)];grind
open Go Go.Xe Go.Sx
variable {k:Int}
def t8 {α:Type}{l:List α}{a:α}(h0:0<=k)(h:l[k.toNat]? =some a):l.take (k+1).toNat=l.take k.toNat++ [a]:=by rw[dY h0,K1 h]
def B7 {α:Type}{l:List α}(h:(l.length:Int)<=k):l.take k.toNat=l:=RA (by omega)
theorem I4 {α c:Type}{f:α->c}{l:List α}{k:Nat}{a:α}(h:l[k]? =some a):(l.map f)[k]? =some (f a):=by grind
def DQ {α:Type}{R:α->α->Prop}{l:List α}(h:l.Pairwise R){i j:Nat}{a b:α}(hi:l[i]? =some a)(hj:l[j]? =some b)(c:i<j):R a b:=by obtain⟨h1,rfl⟩:=QD.1 hi;obtain⟨h2,rfl⟩:=QD.1 hj;exact List.pairwise_iff_getElem.1 h i j h1 h2 c
variable {l:List Str}{a b:Str}
theorem Ks (h0:0<k)(c:l[k.toNat]? =some a)(hb:l[(k+ -1).toNat]? =some b)(hl:lt b a=true)(h:Asc (l.take k.toNat)):Asc (l.take (k+1).toNat):=by
 unfold Asc at h⊢;rw[t8 (by omega) c,List.pairwise_append];refine⟨h,List.pairwise_singleton _ _,fun x hx y hy=>?_⟩;rw[RR.1 hy];obtain⟨i,hi⟩:=RH.1 hx;have d:i<k.toNat:=by have:=(QD.1 hi).1;rw[Rm]at this;omega
 by_cases e:i=(k+ -1).toNat;simp_all;refine mO (DQ h hi (j:=(k+ -1).toNat) ?_ (by omega)) hl;rw[Rj,QW (by omega)];exact hb
def Hu (h0:0<k)(c:l[k.toNat]? =some a)(hb:l[(k+ -1).toNat]? =some b)(h:lt a b=true\/a=b):¬Asc l:=fun hp=>by have:=DQ hp hb c (by omega);rcases h with h|h;rw[uF this]at h;cases h;rw[h,lt_irrefl]at this;cases this
theorem oT (h0:0<=k)(c:l[k.toNat]? =some a)(h:jV (l.take k.toNat))(hn:a=[]\/ ∀z∈l.take k.toNat,z≠a):jV (l.take (k+1).toNat):=by unfold jV at h⊢;rw[t8 h0 c,List.pairwise_append];grind
def Dv {i j:Nat}(hi:l[i]? =some a)(hj:l[j]? =some b)(c:i<j)(hb:b≠ [])(e:a=b):¬jV l:=fun h=>DQ h hi hj c hb e
def at0 (a:Att):a.row.getD 0 (.int 0)= .str a.n:=rfl
def at1 (a:Att):a.row.getD 1 (.int 0)= .str a.v:=rfl
def E7 {p:Prop}(h:¬p):(false=true↔p):=⟨fun e=>(by cases e),fun e=>absurd e h⟩
theorem KU {α:Type}{l:List α}{j:Int}(h0:0<=j)(h:j<((l.take k.toNat).length:Int)):∃a,l[j.toNat]? =some a/\(l.take k.toNat)[j.toNat]? =some a/\j<k:=by
 rw[Rm]at h;have hj:j.toNat<l.length:=by omega
 exact⟨l[j.toNat],QL hj,by grind,by omega⟩
theorem CU (s:d8)(hk:¬s.k=2)(w:s.k=1)(ht:C2 s.t=true)(hy:s.y=[]\/C2 s.y=true)(x0:Sx.Rows)(e0:x0=[s.row]):vcAlone0 x0:=by
 subst e0;have C:Y3 s↔(s.x=[]/\s.a.length<=8/\s.c.length<=16/\(∀a∈s.a,C2 a.n=true/\J5 a.v=true)/\Asc (s.a.map Att.n)/\jV (s.c.map d8.y)):=by unfold Y3;simp[w,ht,hy]
 have o:∀k:Int,pQ (rows s.c) 0 k=rows (s.c.take k.toNat):=fun k=>by simp[pQ,rows,List.map_take]
 unfold vcAlone0;simp only[Nd,ln,I64,cS,cL,KB,t3,t4,t5,D6,cH,QT,A6,oG,CX,kI,tZ,tW,KZ,B6,E4,L5,Z4,iP,Ec,RW,Sa,RV,vK,forall_eq',forall_eq,RP,Rv,Nm,tY,C,o];refine Rc (fun hx=>Rc (fun h=>E7 fun h'=>by omega) fun G=>Rc (fun h=>E7 fun h'=>by omega) fun D=>Rc ⟨by omega,by omega,by simp,List.Pairwise.nil⟩ fun _ k ⟨k0,k1,k2,k3⟩=>Rc (fun hk=>?_) fun hk=>?_) fun hx=>E7 fun h=>hx h.1
 ·obtain⟨a,p⟩:=Sx.get_at k0 hk;have hm:=QK p;have hn:=I4 (f:=Att.n) p;rw[List.map_take]at k3;simp only[c9 p,at0,at1,D6];have st:C2 a.n=true->J5 a.v=true-> ∀x∈s.a.take (k+1).toNat,C2 x.n=true/\J5 x.v=true:=fun h1 h2 x hx=>by rw[t8 k0 p,Ro,RR]at hx;rcases hx with hx|rfl;exact k2 x hx;exact⟨h1,h2⟩
  by_cases m:0<k
  ·obtain⟨b,hb⟩:=Sx.get_at (T:=s.a) (i:=k+ -1) (by omega) (by omega);have g:=I4 (f:=Att.n) hb;simp only[c9 hb,at0,D6,List.map_take]
   repeat' first| (refine Rc ?_ ?_)|intro _
   all_goals first|omega|exact E7 fun h=>absurd (h.2.2.2.1 a hm).1 ‹_› |exact E7 fun h=>absurd (h.2.2.2.1 a hm).2 ‹_› |exact E7 fun h=>Hu m hn g (.inl ‹_›) h.2.2.2.2.1|exact E7 fun h=>Hu m hn g (.inr ‹_›) h.2.2.2.2.1|exact st ‹_› ‹_› _ ‹_› |exact(st ‹_› ‹_› _ ‹_›).1|exact(st ‹_› ‹_› _ ‹_›).2|exact Ks m hn g (Bn (by unfold lt;simpa using‹¬Op.bytesLess a.n b.n=true›) ‹_›) k3
  ·obtain rfl:k=0:=by omega
   repeat' first| (refine Rc ?_ ?_)|intro _
   all_goals first|omega|exact E7 fun h=>absurd (h.2.2.2.1 a hm).1 ‹_› |exact E7 fun h=>absurd (h.2.2.2.1 a hm).2 ‹_› |exact(st ‹_› ‹_› _ ‹_›).1|exact(st ‹_› ‹_› _ ‹_›).2| (rw[t8 (by omega) p];exact List.pairwise_singleton _ _)
 ·rw[B7 (by omega)]at k2 k3;refine Rc ⟨by omega,by omega,List.Pairwise.nil⟩ fun _ j ⟨B,I,u⟩=>Rc (fun hj=>?_) fun hj=>?_
  ·obtain⟨c,hc⟩:=Sx.get_at B hj;have hy:=I4 (f:=d8.y) hc;have r:((s.c.take j.toNat).length:Int)=j:=by rw[Rm];omega
   simp only[Q8 hc,t2,D6,r];have nx:jV ((s.c.map d8.y).take (j+1).toNat)->(¬j+1< -9223372036854775808/\j+1<9223372036854775808)/\(¬j+1< -9223372036854775808/\j+1<9223372036854775808->(0<=j+1/\j+1<=(s.c.length:Int)/\jV ((s.c.map d8.y).take (j+1).toNat))/\(0<=j+1/\j+1<=(s.c.length:Int)/\jV ((s.c.map d8.y).take (j+1).toNat)->((s.c.length:Int)-(j+1)).toNat<((s.c.length:Int)-j).toNat)):=
    fun h=>(by grind)
   refine⟨by omega,fun _=>⟨hj,fun _=>⟨fun he=>nx (oT B hy u (.inl he)),fun he=>⟨by omega,fun _=>⟨by omega,fun _=>⟨⟨by omega,by omega,by simp⟩,fun _ i ⟨i0,H,A⟩=>Rc (fun hi=>?_) fun hi=>nx (oT B hy u (.inr ?_))⟩⟩⟩⟩⟩⟩;obtain⟨d,E,q,F⟩:=KU (l:=s.c) (k:=j) i0 (by omega);simp only[Q8 q,t2,D6];refine⟨by omega,fun _=>⟨by omega,fun _=>⟨fun e=>⟨fun h=>by omega,fun _=>E7 fun h=>Dv (I4 E) hy (by omega) he e h.2.2.2.2.2⟩,fun e=>⟨⟨by omega,by omega⟩,fun _=>⟨⟨by omega,by omega,fun z hz=>?_⟩,fun _=>by omega⟩⟩⟩⟩⟩;rw[t8 i0 (I4 q),Ro,RR]at hz;rcases hz with hz|rfl;exact A z hz;exact e;rw[B7 (by grind),List.map_take]at A;exact A
  rw[B7 (by grind)]at u;exact⟨fun _=>⟨hx,by omega,by omega,k2,k3,u⟩,fun _=>by trivial⟩
theorem vcAlone_ok :vcAlone:=by
 rintro _ ⟨s,rfl⟩;have d:=CU s;simp only[Nd,ln,cI,cS,cL,KB,t0,t1,t2,t3,t4,t5,iR,D6,cH,QT,A6,E4,L5,Z4,iP,Ec,RW,Sa,RV,vK,forall_eq',forall_eq,RP,Rv];refine⟨fun hk=>?_,fun hk=>⟨fun h1=>⟨fun ht=>⟨fun hy=>d hk h1 ht (.inl hy) _ rfl,fun hy=>⟨fun h2=>d hk h1 ht (.inr h2) _ rfl,fun h2=>E7 fun h=>?_⟩⟩,fun ht=>E7 fun h=>?_⟩,fun h1=>E7 fun h=>?_⟩⟩
 ·have d:Y3 s↔(J5 s.x=true/\s.t=[]/\s.y=[]/\s.a=[]/\s.c=[]):=by unfold Y3;simp[hk]
  simp_all
 all_goals
  rcases h<;>grind
