/- Trees: plain lemmas; the conditions of named, text and alone hold.
  Conditions: none. -/
import Derived.Test.YtgmiikiinbaapaaGreatA2
set_option linter.all false
namespace Go.D
open Go Go.Xe Go.Sx
variable {s:Str}
theorem pZ {k:Int}(h0:0<=k)(h1:k<(s.length:Int)):∃b,s[k.toNat]? =some b/\byteAt s k=b.toNat:=by obtain⟨b,hb⟩:=Sx.get_at h0 h1;refine⟨b,hb,?_⟩;unfold byteAt;grind
variable {p:UInt8->Bool}{k:Nat}{b:UInt8}
theorem jY (h:s[k]? =some b)(hb:p b=false):s.all p=false:=by grind
theorem jZ {k:Int}(h:s[k.toNat]? =some b)(h0:0<=k)(a:(s.take k.toNat).all p=true)(hb:p b=true):(s.take (k+1).toNat).all p=true:=by rw[cP h0,I1 h,List.all_append,a];grind
def Cy (h:(97<=b.toNat/\b.toNat<=122)\/(48<=b.toNat/\b.toNat<=57)):hU b=true:=by unfold hU;simp;exact h
def xB (h:¬((97<=b.toNat/\b.toNat<=122)\/(48<=b.toNat/\b.toNat<=57))):hU b=false:=by
 cases hb:hU b with
 |false=>rfl|true=>unfold hU at hb;simp at hb;exact absurd hb h
def yB (h:s.all hU=false):B0 s=false:=by unfold B0;rw[h];simp
theorem gK (h:s.length<1\/16<s.length):B0 s=false:=by unfold B0;grind
theorem yC (h0:1<=s.length)(h1:s.length<=16)(h:s.all hU=true):B0 s=true:=by unfold B0;grind
def Y6 {k:Int}(h:(s.take k.toNat).all p=true)(hk:(s.length:Int)<=k):s.all p=true:=by rwa[PC (by omega)]at h
def vcNamed_ok :vcNamed:=by
 unfold vcNamed vcNamed0 Nd;intro s hp;simp only[ln,I64,C7,oU,JY,A5,PP,Qc];refine Pf (fun h=>(gK (.inl (by omega))).symm) fun h=>Pf (fun h2=>(gK (.inr (by omega))).symm) fun h2=>Pf ⟨by omega,by omega,rfl⟩ fun _ k ⟨k0,k1,k2⟩=>Pf (fun hk=>?_) fun hk=>?_
 ·obtain⟨b,hb,a⟩:=pZ k0 hk
  repeat' first| (refine Pf ?_ ?_)|intro _
  all_goals first|omega|exact(yB (jY hb (xB (by omega)))).symm|exact jZ hb k0 k2 (Cy (by omega))
 ·exact(yC (by omega) (by omega) (Y6 k2 (by omega))).symm
def Hh (h0:32<=b.toNat)(h1:b.toNat<=126):Dj b=true:=by unfold Dj;rw[decide_eq_true h0,decide_eq_true h1];rfl
theorem uE (h:b.toNat<32\/126<b.toNat):Dj b=false:=by unfold Dj;grind
def uO (h:s.all Dj=false):H7 s=false:=by unfold H7;rw[h];simp
def Dp (h:64<s.length):H7 s=false:=by unfold H7;rw[Qf (by omega)];rfl
def Dq (h1:s.length<=64)(h:s.all Dj=true):H7 s=true:=by unfold H7;rw[decide_eq_true h1,h];rfl
theorem Cj (h:s[k]? =some b):(⟨s.toArray⟩:ByteArray).get! (k+0)=b:=by show s.toArray[k+0]! =b;grind
theorem Fe (h:s[k]? =some b)(hb:b.toNat<128):runeAt s k=b.toNat/\runeW s k=1:=by
 have a:Utf8.decode ⟨s.toArray⟩ k=(b.toNat,1):=by simp only[Utf8.decode,Cj h];grind
 unfold runeAt runeW;grind
theorem Fc (h:s[k]? =some b)(hb:128<=b.toNat):128<=runeAt s k:=by
 have a:128<=(Utf8.decode ⟨s.toArray⟩ k).1:=by
  simp only[Utf8.decode,Cj h];rw[OW (by omega)];split
  ·split
   ·grind
   ·decide
  ·split
   ·split
    ·grind
    ·decide
   ·split
    ·split
     ·grind
     ·decide
    ·decide
 unfold runeAt;grind
def vcText_ok :vcText:=by
 unfold vcText Nd;intro s hp;simp only[ln,J1,uC,stMu,A5,PP,Qc,PY,Px];refine Pf (fun h=>(Dp (by omega)).symm) fun h=>Pf ⟨by omega,by omega,rfl⟩ fun _ k ⟨k0,k1,k2⟩=>Pf (fun hk=>?_) fun hk=>(Dq (by omega) (Y6 k2 (by omega))).symm;obtain⟨b,hb,f⟩:=pZ k0 hk;have e:((k.toNat:Nat):Int)=k:=by omega
 have d:decide (k<0)=false:=Qf (by omega);rw[d];by_cases a:b.toNat<128
 ·obtain⟨r1,c⟩:=Fe hb a;rw[e]at r1 c;rw[r1,c]
  repeat' first| (refine Pf ?_ ?_)|intro _
  all_goals first|omega|exact(uO (jY hb (uE (by omega)))).symm|exact jZ hb k0 k2 (Hh (by omega) (by omega))
 ·have r1:=Fc hb (by omega);rw[e]at r1
  repeat' first| (refine Pf ?_ ?_)|intro _
  all_goals first|omega|exact(uO (jY hb (uE (by omega)))).symm
def lt_irrefl :∀a:Str,lt a a=false
 | []=>rfl|a::x=>by have:=lt_irrefl x;unfold lt at this⊢;simp[Op.bytesLess,this]
theorem kQ :∀ {a b c:Str},lt a b=true->lt b c=true->lt a c=true
 |_,[],_,h,_=>by unfold lt at h;cases‹Ae› <;>simp[Op.bytesLess]at h
 |_,_::_,[],_,h=>by unfold lt at h;simp[Op.bytesLess]at h| [],_::_,_::_,_,_=>rfl|a::x,b::y,c::z,h,k=>by
  unfold lt at h k⊢;simp only[Op.bytesLess,Qg,OX,OE,beq_iff_eq]at h k⊢;rcases h with h| ⟨rfl,h⟩
  ·grind
  ·rcases k with k| ⟨rfl,k⟩
   ·grind
   ·exact .inr ⟨rfl,kQ h k⟩
theorem zI :∀ {a b:Str},lt a b=false->a≠b->lt b a=true
 | [],[],_,h=>absurd rfl h| [],b::y,h,_=>by unfold lt at h;simp[Op.bytesLess]at h|a::x,[],_,_=>rfl|a::x,b::y,h,k=>by
  unfold lt at h⊢;simp only[Op.bytesLess,QH,PB,Bool.and_eq_false_iff,Qg,OX,OE,beq_iff_eq]at h⊢;by_cases e:a=b
  ·subst e;refine .inr ⟨rfl,zI (by rcases h.2 with h2|h2;simp at h2;exact h2) fun e=>k (by grind)⟩
  ·grind
def sC {a b:Str}(h:lt a b=true):lt b a=false:=by
 cases hb:lt b a with
 |false=>rfl|true=>have:=kQ h hb;rw[lt_irrefl]at this;cases this
def R9 (s:c9):s.row=[.int s.k,.str s.t,.str s.y,.lst (s.a.map Att.row),.str s.x,.lst (rows s.c)]:=by
 have h:∀l:List c9,c9.rows l=rows l:=fun l=>by induction l with|nil=>rfl|cons a l d=>simp[c9.rows,rows,d]
 cases s;simp[c9.row,c9.k,c9.t,c9.y,c9.a,c9.x,c9.c,h]
theorem Q6 {a b:List Att}(h:a.map Att.row=b.map Att.row):a=b:=by
 have e:∀l:List Att,(l.map Att.row).map atOf=l:=fun l=>by rw[List.map_map];exact List.map_id' l
 grind
mutual
def qJ :∀ {s t:c9},s.row=t.row->s=t
 | .mk ..,.mk ..,h=>by simp only[c9.row,PZ,Dat.int.injEq,Dat.str.injEq,Dat.lst.injEq,Qc]at h;obtain⟨rfl,rfl,rfl,h1,rfl,h2⟩:=h;rw[Q6 h1,rows_inj h2]
def rows_inj :∀ {l m:List c9},c9.rows l=c9.rows m->l=m
 | [],[],_=>rfl| [],_::_,h=>by cases h
 |_::_,[],h=>by cases h
 |s::l,t::m,h=>by simp only[c9.rows,PZ]at h;rw[qJ h.1,rows_inj h.2]
end
def tH {s t:c9}:(s.row=t.row)=(s=t):=propext ⟨qJ,fun h=>h▸rfl⟩
theorem AD {l m:List c9}:(rows l=rows m)=(l=m):=propext ⟨fun h=>by
 induction l generalizing m with
 |nil=>simp_all|cons a l c=>cases m with|nil=>cases h|cons b m=>simp at h;rw[qJ h.1,c h.2],fun h=>h▸rfl⟩
def LH (l:List Att):ats (l.map Att.row)=l:=by unfold ats;rw[List.map_map];exact List.map_id' l
def Dm {s t:c9}(h0:s.k=t.k)(h1:s.t=t.t)(h2:s.y=t.y)(h3:s.a=t.a)(h4:s.x=t.x)(d:s.c=t.c):s=t:=by cases s;cases t;subst h0 h1 h2 h3 h4 d;rfl
def G7 {s c:c9}:isT s c.k c.t c.y (c.a.map Att.row) c.x (rows c.c)=(s=c):=propext ⟨fun⟨h0,h1,h2,h3,h4,d⟩=>Dm h0.symm h1.symm h2.symm (Q6 h3).symm h4.symm (AD.mp d).symm,fun h=>by subst h;exact⟨rfl,rfl,rfl,rfl,rfl,rfl⟩⟩
def t0 (c:c9):c.row.getD 0 (.int 0)= .int c.k:=by rw[R9];rfl
def t1 (c:c9):c.row.getD 1 (.int 0)= .str c.t:=by rw[R9];rfl
def t2 (c:c9):c.row.getD 2 (.int 0)= .str c.y:=by rw[R9];rfl
def t3 (c:c9):c.row.getD 3 (.int 0)= .lst (c.a.map Att.row):=by rw[R9];rfl
def t4 (c:c9):c.row.getD 4 (.int 0)= .str c.x:=by rw[R9];rfl
def t5 (c:c9):c.row.getD 5 (.int 0)= .lst (rows c.c):=by rw[R9];rfl
def Je (r:Ar)(j:Nat):y9 [r] 0 j=r.getD j (.int 0):=rfl
def part1 (r:Ar):pQ [r] 0 1=[r]:=rfl
def N6 {l:List c9}{i:Int}{c:c9}(h:l[i.toNat]? =some c)(j:Nat):y9 (rows l) i j=c.row.getD j (.int 0):=i4 h j
def rU (l:List c9):oQ (rows l)=l.map c9.y:=by unfold oQ rows;rw[List.map_map];exact List.map_congr_left fun c _=>by simp only[Function.comp,t2,C2]
theorem Ki {l:List c9}{i:Int}{c:c9}(h:l[i.toNat]? =some c):pQ (rows l) i 1=[c.row]:=by
 unfold pQ rows;have:=(OG.1 h)
 rw[List.drop_eq_getElem_cons (by grind)];grind
open Go Go.Xe Go.Sx
variable {k:Int}
def m9 {α:Type}{l:List α}{a:α}(h0:0<=k)(h:l[k.toNat]? =some a):l.take (k+1).toNat=l.take k.toNat++ [a]:=by rw[cP h0,I1 h]
def A4 {α:Type}{l:List α}(h:(l.length:Int)<=k):l.take k.toNat=l:=PC (by omega)
theorem G2 {α c:Type}{f:α->c}{l:List α}{k:Nat}{a:α}(h:l[k]? =some a):(l.map f)[k]? =some (f a):=by grind
def CJ {α:Type}{R:α->α->Prop}{l:List α}(h:l.Pairwise R){i j:Nat}{a b:α}(hi:l[i]? =some a)(hj:l[j]? =some b)(c:i<j):R a b:=by obtain⟨h1,rfl⟩:=OG.1 hi;obtain⟨h2,rfl⟩:=OG.1 hj;exact List.pairwise_iff_getElem.1 h i j h1 h2 c
variable {l:List Str}{a b:Str}
theorem IX (h0:0<k)(c:l[k.toNat]? =some a)(hb:l[(k+ -1).toNat]? =some b)(hl:lt b a=true)(h:Asc (l.take k.toNat)):Asc (l.take (k+1).toNat):=by
 unfold Asc at h⊢;rw[m9 (by omega) c,List.pairwise_append];refine⟨h,List.pairwise_singleton _ _,fun x hx y hy=>?_⟩;rw[PS.1 hy];obtain⟨i,hi⟩:=PI.1 hx;have d:i<k.toNat:=by have:=(OG.1 hi).1;rw[Po]at this;omega
 by_cases e:i=(k+ -1).toNat
 ·simp_all
 ·refine kQ (CJ h hi (j:=(k+ -1).toNat) ?_ (by omega)) hl;rw[Pk,OY (by omega)];exact hb
def Gl (h0:0<k)(c:l[k.toNat]? =some a)(hb:l[(k+ -1).toNat]? =some b)(h:lt a b=true\/a=b):¬Asc l:=fun hp=>by
 have:=CJ hp hb c (by omega);rcases h with h|h
 ·rw[sC this]at h;cases h
 ·rw[h,lt_irrefl]at this;cases this
theorem mW (h0:0<=k)(c:l[k.toNat]? =some a)(h:iG (l.take k.toNat))(hn:a=[]\/ ∀z∈l.take k.toNat,z≠a):iG (l.take (k+1).toNat):=by unfold iG at h⊢;rw[m9 h0 c,List.pairwise_append];grind
def Cr {i j:Nat}(hi:l[i]? =some a)(hj:l[j]? =some b)(c:i<j)(hb:b≠ [])(e:a=b):¬iG l:=fun h=>CJ h hi hj c hb e
def at0 (a:Att):a.row.getD 0 (.int 0)= .str a.n:=rfl
def at1 (a:Att):a.row.getD 1 (.int 0)= .str a.v:=rfl
def D2 {p:Prop}(h:¬p):(false=true↔p):=⟨fun e=>(by cases e),fun e=>absurd e h⟩
theorem Jw {α:Type}{l:List α}{j:Int}(h0:0<=j)(h:j<((l.take k.toNat).length:Int)):∃a,l[j.toNat]? =some a/\(l.take k.toNat)[j.toNat]? =some a/\j<k:=by
 rw[Po]at h;have hj:j.toNat<l.length:=by omega
 exact⟨l[j.toNat],OO hj,by grind,by omega⟩
theorem BM (s:c9)(hk:¬s.k=2)(w:s.k=1)(ht:B0 s.t=true)(hy:s.y=[]\/B0 s.y=true)(x0:Sx.Rows)(e0:x0=[s.row]):vcAlone0 x0:=by
 subst e0;have C:V3 s↔(s.x=[]/\s.a.length<=8/\s.c.length<=16/\(∀a∈s.a,B0 a.n=true/\H7 a.v=true)/\Asc (s.a.map Att.n)/\iG (s.c.map c9.y)):=by unfold V3;simp[w,ht,hy]
 have o:∀k:Int,pQ (rows s.c) 0 k=rows (s.c.take k.toNat):=fun k=>by simp[pQ,rows,List.map_take]
 unfold vcAlone0;simp only[Nd,ln,I64,cS,cL,Je,t3,t4,t5,C2,aY,OV,y8,mN,BP,iQ,rV,rS,JA,A5,C7,J1,W4,gH,CU,PZ,Qc,PY,tH,forall_eq',forall_eq,PP,Px,LH,rU,C,o];refine Pf (fun hx=>Pf (fun h=>D2 fun h'=>by omega) fun G=>Pf (fun h=>D2 fun h'=>by omega) fun D=>Pf ⟨by omega,by omega,by simp,List.Pairwise.nil⟩ fun _ k ⟨k0,k1,k2,k3⟩=>Pf (fun hk=>?_) fun hk=>?_) fun hx=>D2 fun h=>hx h.1
 ·obtain⟨a,p⟩:=Sx.get_at k0 hk;have hm:=ON p;have hn:=G2 (f:=Att.n) p;rw[List.map_take]at k3;simp only[i4 p,at0,at1,C2];have st:B0 a.n=true->H7 a.v=true-> ∀x∈s.a.take (k+1).toNat,B0 x.n=true/\H7 x.v=true:=fun h1 h2 x hx=>by
   rw[m9 k0 p,Pq,PS]at hx;rcases hx with hx|rfl
   ·exact k2 x hx
   ·exact⟨h1,h2⟩
  by_cases m:0<k
  ·obtain⟨b,hb⟩:=Sx.get_at (T:=s.a) (i:=k+ -1) (by omega) (by omega);have g:=G2 (f:=Att.n) hb;simp only[i4 hb,at0,C2,List.map_take]
   repeat' first| (refine Pf ?_ ?_)|intro _
   all_goals first|omega|exact D2 fun h=>absurd (h.2.2.2.1 a hm).1 ‹_› |exact D2 fun h=>absurd (h.2.2.2.1 a hm).2 ‹_› |exact D2 fun h=>Gl m hn g (.inl ‹_›) h.2.2.2.2.1|exact D2 fun h=>Gl m hn g (.inr ‹_›) h.2.2.2.2.1|exact st ‹_› ‹_› _ ‹_› |exact(st ‹_› ‹_› _ ‹_›).1|exact(st ‹_› ‹_› _ ‹_›).2|exact IX m hn g (zI (by unfold lt;simpa using‹¬Op.bytesLess a.n b.n=true›) ‹_›) k3
  ·obtain rfl:k=0:=by omega
   repeat' first| (refine Pf ?_ ?_)|intro _
   all_goals first|omega|exact D2 fun h=>absurd (h.2.2.2.1 a hm).1 ‹_› |exact D2 fun h=>absurd (h.2.2.2.1 a hm).2 ‹_› |exact(st ‹_› ‹_› _ ‹_›).1|exact(st ‹_› ‹_› _ ‹_›).2| (rw[m9 (by omega) p];exact List.pairwise_singleton _ _)
 ·rw[A4 (by omega)]at k2 k3;refine Pf ⟨by omega,by omega,List.Pairwise.nil⟩ fun _ j ⟨B,I,u⟩=>Pf (fun hj=>?_) fun hj=>?_
  ·obtain⟨c,hc⟩:=Sx.get_at B hj;have hy:=G2 (f:=c9.y) hc;have r:((s.c.take j.toNat).length:Int)=j:=by rw[Po];omega
   simp only[N6 hc,t2,C2,r];have nx:iG ((s.c.map c9.y).take (j+1).toNat)->(¬j+1< -9223372036854775808/\j+1<9223372036854775808)/\(¬j+1< -9223372036854775808/\j+1<9223372036854775808->(0<=j+1/\j+1<=(s.c.length:Int)/\iG ((s.c.map c9.y).take (j+1).toNat))/\(0<=j+1/\j+1<=(s.c.length:Int)/\iG ((s.c.map c9.y).take (j+1).toNat)->((s.c.length:Int)-(j+1)).toNat<((s.c.length:Int)-j).toNat)):=
    fun h=>(by grind)
   refine⟨by omega,fun _=>⟨hj,fun _=>⟨fun he=>nx (mW B hy u (.inl he)),fun he=>⟨by omega,fun _=>⟨by omega,fun _=>⟨⟨by omega,by omega,by simp⟩,fun _ i ⟨i0,H,A⟩=>Pf (fun hi=>?_) fun hi=>nx (mW B hy u (.inr ?_))⟩⟩⟩⟩⟩⟩
   ·obtain⟨d,E,q,F⟩:=Jw (l:=s.c) (k:=j) i0 (by omega);simp only[N6 q,t2,C2];refine⟨by omega,fun _=>⟨by omega,fun _=>⟨fun e=>⟨fun h=>by omega,fun _=>D2 fun h=>Cr (G2 E) hy (by omega) he e h.2.2.2.2.2⟩,fun e=>⟨⟨by omega,by omega⟩,fun _=>⟨⟨by omega,by omega,fun z hz=>?_⟩,fun _=>by omega⟩⟩⟩⟩⟩;rw[m9 i0 (G2 q),Pq,PS]at hz;rcases hz with hz|rfl
    ·exact A z hz
    ·exact e
   ·rw[A4 (by grind),List.map_take]at A;exact A
  ·rw[A4 (by grind)]at u;exact⟨fun _=>⟨hx,by omega,by omega,k2,k3,u⟩,fun _=>by trivial⟩
theorem vcAlone_ok :vcAlone:=by
 rintro _ ⟨s,rfl⟩;have d:=BM s;simp only[Nd,ln,cI,cS,cL,Je,t0,t1,t2,t3,t4,t5,gJ,C2,aY,OV,y8,C7,J1,W4,gH,CU,PZ,Qc,PY,tH,forall_eq',forall_eq,PP,Px];refine⟨fun hk=>?_,fun hk=>⟨fun h1=>⟨fun ht=>⟨fun hy=>d hk h1 ht (.inl hy) _ rfl,fun hy=>⟨fun h2=>d hk h1 ht (.inr h2) _ rfl,fun h2=>D2 fun h=>?_⟩⟩,fun ht=>D2 fun h=>?_⟩,fun h1=>D2 fun h=>?_⟩⟩
 ·have d:V3 s↔(H7 s.x=true/\s.t=[]/\s.y=[]/\s.a=[]/\s.c=[]):=by unfold V3;simp[hk]
  simp_all
 all_goals
  rcases h<;>grind
end Go.D
