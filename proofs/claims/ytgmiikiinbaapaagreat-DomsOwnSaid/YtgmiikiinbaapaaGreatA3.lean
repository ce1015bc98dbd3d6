/- Trees: plain lemmas; the conditions of named, text and alone hold.
  Conditions: none. -/
import Derived.Test.YtgmiikiinbaapaaGreatA2
set_option linter.all false
namespace Go.D
open Go Go.Xe Go.Sx
variable {s:Str}
theorem qL {k:Int}(h0:0<=k)(h1:k<(s.length:Int)):∃b,s[k.toNat]? =some b/\byteAt s k=b.toNat:=by obtain⟨b,hb⟩:=Sx.get_at h0 h1;refine⟨b,hb,?_⟩;unfold byteAt;grind
variable {p:UInt8->Bool}{k:Nat}{b:UInt8}
theorem kL (h:s[k]? =some b)(hb:p b=false):s.all p=false:=by grind
theorem kM {k:Int}(h:s[k.toNat]? =some b)(h0:0<=k)(a:(s.take k.toNat).all p=true)(hb:p b=true):(s.take (k+1).toNat).all p=true:=by rw[cW h0,I5 h,List.all_append,a];grind
def CT (h:(97<=b.toNat/\b.toNat<=122)\/(48<=b.toNat/\b.toNat<=57)):iH b=true:=by unfold iH;simp;exact h
def xU (h:¬((97<=b.toNat/\b.toNat<=122)\/(48<=b.toNat/\b.toNat<=57))):iH b=false:=by
 cases hb:iH b with
 |false=>rfl|true=>unfold iH at hb;simp at hb;exact absurd hb h
def yQ (h:s.all iH=false):B1 s=false:=by unfold B1;rw[h];simp
theorem gU (h:s.length<1\/16<s.length):B1 s=false:=by unfold B1;grind
theorem yR (h0:1<=s.length)(h1:s.length<=16)(h:s.all iH=true):B1 s=true:=by unfold B1;grind
def Z2 {k:Int}(h:(s.take k.toNat).all p=true)(hk:(s.length:Int)<=k):s.all p=true:=by rwa[Ql (by omega)]at h
def vcNamed_ok :vcNamed:=by
 unfold vcNamed vcNamed0 Nd;intro s hp;simp only[ln,I64,D1,pH,Ky,A7,Qy,QH];refine PM (fun h=>(gU (.inl (by omega))).symm) fun h=>PM (fun h2=>(gU (.inr (by omega))).symm) fun h2=>PM ⟨by omega,by omega,rfl⟩ fun _ k ⟨k0,k1,k2⟩=>PM (fun hk=>?_) fun hk=>?_
 ·obtain⟨b,hb,a⟩:=qL k0 hk
  repeat' first| (refine PM ?_ ?_)|intro _
  all_goals first|omega|exact(yQ (kL hb (xU (by omega)))).symm|exact kM hb k0 k2 (CT (by omega))
 exact(yR (by omega) (by omega) (Z2 k2 (by omega))).symm
def HG (h0:32<=b.toNat)(h1:b.toNat<=126):DH b=true:=by unfold DH;rw[decide_eq_true h0,decide_eq_true h1];rfl
theorem uS (h:b.toNat<32\/126<b.toNat):DH b=false:=by unfold DH;grind
def vG (h:s.all DH=false):I0 s=false:=by unfold I0;rw[h];simp
def DO (h:64<s.length):I0 s=false:=by unfold I0;rw[QK (by omega)];rfl
def DP (h1:s.length<=64)(h:s.all DH=true):I0 s=true:=by unfold I0;rw[decide_eq_true h1,h];rfl
theorem CF (h:s[k]? =some b):(⟨s.toArray⟩:ByteArray).get! (k+0)=b:=by show s.toArray[k+0]! =b;grind
theorem FG (h:s[k]? =some b)(hb:b.toNat<128):runeAt s k=b.toNat/\runeW s k=1:=by
 have a:Utf8.decode ⟨s.toArray⟩ k=(b.toNat,1):=by simp only[Utf8.decode,CF h];grind
 unfold runeAt runeW;grind
theorem FF (h:s[k]? =some b)(hb:128<=b.toNat):128<=runeAt s k:=by
 have a:128<=(Utf8.decode ⟨s.toArray⟩ k).1:=by simp only[Utf8.decode,CF h];rw[PE (by omega)];split;split;grind;decide;split;split;grind;decide;split;split;grind;decide;decide
 unfold runeAt;grind
def vcText_ok :vcText:=by
 unfold vcText Nd;intro s hp;simp only[ln,J4,uP,stMu,A7,Qy,QH,QD,Qg];refine PM (fun h=>(DO (by omega)).symm) fun h=>PM ⟨by omega,by omega,rfl⟩ fun _ k ⟨k0,k1,k2⟩=>PM (fun hk=>?_) fun hk=>(DP (by omega) (Z2 k2 (by omega))).symm;obtain⟨b,hb,f⟩:=qL k0 hk;have e:((k.toNat:Nat):Int)=k:=by omega
 have d:decide (k<0)=false:=QK (by omega);rw[d];by_cases a:b.toNat<128
 ·obtain⟨r1,c⟩:=FG hb a;rw[e]at r1 c;rw[r1,c]
  repeat' first| (refine PM ?_ ?_)|intro _
  all_goals first|omega|exact(vG (kL hb (uS (by omega)))).symm|exact kM hb k0 k2 (HG (by omega) (by omega))
 ·have r1:=FF hb (by omega);rw[e]at r1
  repeat' first| (refine PM ?_ ?_)|intro _
  all_goals first|omega|exact(vG (kL hb (uS (by omega)))).symm
def lt_irrefl :∀a:Str,lt a a=false
 | []=>rfl|a::x=>by have:=lt_irrefl x;unfold lt at this⊢;simp[Op.bytesLess,this]
theorem lB :∀ {a b c:Str},lt a b=true->lt b c=true->lt a c=true
 |_,[],_,h,_=>by unfold lt at h;cases‹Ae› <;>simp[Op.bytesLess]at h
 |_,_::_,[],_,h=>by unfold lt at h;simp[Op.bytesLess]at h| [],_::_,_::_,_,_=>rfl|a::x,b::y,c::z,h,k=>by unfold lt at h k⊢;simp only[Op.bytesLess,QL,PF,Pk,beq_iff_eq]at h k⊢;rcases h with h| ⟨rfl,h⟩;grind;rcases k with k| ⟨rfl,k⟩;grind;exact .inr ⟨rfl,lB h k⟩
theorem Aj :∀ {a b:Str},lt a b=false->a≠b->lt b a=true
 | [],[],_,h=>absurd rfl h| [],b::y,h,_=>by unfold lt at h;simp[Op.bytesLess]at h|a::x,[],_,_=>rfl|a::x,b::y,h,k=>by unfold lt at h⊢;simp only[Op.bytesLess,Rq,Qk,Bool.and_eq_false_iff,QL,PF,Pk,beq_iff_eq]at h⊢;by_cases e:a=b;subst e;refine .inr ⟨rfl,Aj (by rcases h.2 with h2|h2;simp at h2;exact h2) fun e=>k (by grind)⟩;grind
def sR {a b:Str}(h:lt a b=true):lt b a=false:=by
 cases hb:lt b a with
 |false=>rfl|true=>have:=lB h hb;rw[lt_irrefl]at this;cases this
def S7 (s:c9):s.row=[.int s.k,.str s.t,.str s.y,.lst (s.a.map Att.row),.str s.x,.lst (rows s.c)]:=by
 have h:∀l:List c9,c9.rows l=rows l:=fun l=>by induction l with|nil=>rfl|cons a l d=>simp[c9.rows,rows,d]
 cases s;simp[c9.row,c9.k,c9.t,c9.y,c9.a,c9.x,c9.c,h]
theorem R1 {a b:List Att}(h:a.map Att.row=b.map Att.row):a=b:=by
 have e:∀l:List Att,(l.map Att.row).map atOf=l:=fun l=>by rw[List.map_map];exact List.map_id' l
 grind
mutual
def qW :∀ {s t:c9},s.row=t.row->s=t
 | .mk ..,.mk ..,h=>by simp only[c9.row,QE,Dat.int.injEq,Dat.str.injEq,Dat.lst.injEq,QH]at h;obtain⟨rfl,rfl,rfl,h1,rfl,h2⟩:=h;rw[R1 h1,rows_inj h2]
def rows_inj :∀ {l m:List c9},c9.rows l=c9.rows m->l=m
 | [],[],_=>rfl| [],_::_,h=>by cases h
 |_::_,[],h=>by cases h
 |s::l,t::m,h=>by simp only[c9.rows,QE]at h;rw[qW h.1,rows_inj h.2]
end
def tV {s t:c9}:(s.row=t.row)=(s=t):=propext ⟨qW,fun h=>h▸rfl⟩
theorem AY {l m:List c9}:(rows l=rows m)=(l=m):=propext ⟨fun h=>by
 induction l generalizing m with
 |nil=>simp_all|cons a l c=>cases m with|nil=>cases h|cons b m=>simp at h;rw[qW h.1,c h.2],fun h=>h▸rfl⟩
def Mk (l:List Att):ats (l.map Att.row)=l:=by unfold ats;rw[List.map_map];exact List.map_id' l
def DK {s t:c9}(h0:s.k=t.k)(h1:s.t=t.t)(h2:s.y=t.y)(h3:s.a=t.a)(h4:s.x=t.x)(d:s.c=t.c):s=t:=by cases s;cases t;subst h0 h1 h2 h3 h4 d;rfl
def H3 {s c:c9}:isT s c.k c.t c.y (c.a.map Att.row) c.x (rows c.c)=(s=c):=propext ⟨fun⟨h0,h1,h2,h3,h4,d⟩=>DK h0.symm h1.symm h2.symm (R1 h3).symm h4.symm (AY.mp d).symm,fun h=>by subst h;exact⟨rfl,rfl,rfl,rfl,rfl,rfl⟩⟩
def t0 (c:c9):c.row.getD 0 (.int 0)= .int c.k:=by rw[S7];rfl
def t1 (c:c9):c.row.getD 1 (.int 0)= .str c.t:=by rw[S7];rfl
def t2 (c:c9):c.row.getD 2 (.int 0)= .str c.y:=by rw[S7];rfl
def t3 (c:c9):c.row.getD 3 (.int 0)= .lst (c.a.map Att.row):=by rw[S7];rfl
def t4 (c:c9):c.row.getD 4 (.int 0)= .str c.x:=by rw[S7];rfl
def t5 (c:c9):c.row.getD 5 (.int 0)= .lst (rows c.c):=by rw[S7];rfl
def JG (r:Ar)(j:Nat):z4 [r] 0 j=r.getD j (.int 0):=rfl
def part1 (r:Ar):pQ [r] 0 1=[r]:=rfl
def O2 {l:List c9}{i:Int}{c:c9}(h:l[i.toNat]? =some c)(j:Nat):z4 (rows l) i j=c.row.getD j (.int 0):=i4 h j
def sK (l:List c9):pD (rows l)=l.map c9.y:=by unfold pD rows;rw[List.map_map];exact List.map_congr_left fun c _=>by simp only[Function.comp,t2,C4]
theorem KK {l:List c9}{i:Int}{c:c9}(h:l[i.toNat]? =some c):pQ (rows l) i 1=[c.row]:=by
 unfold pQ rows;have:=(Po.1 h)
 rw[List.drop_eq_getElem_cons (by grind)];grind
open Go Go.Xe Go.Sx
variable {k:Int}
def p7 {α:Type}{l:List α}{a:α}(h0:0<=k)(h:l[k.toNat]? =some a):l.take (k+1).toNat=l.take k.toNat++ [a]:=by rw[cW h0,I5 h]
def A6 {α:Type}{l:List α}(h:(l.length:Int)<=k):l.take k.toNat=l:=Ql (by omega)
theorem G6 {α c:Type}{f:α->c}{l:List α}{k:Nat}{a:α}(h:l[k]? =some a):(l.map f)[k]? =some (f a):=by grind
def De {α:Type}{R:α->α->Prop}{l:List α}(h:l.Pairwise R){i j:Nat}{a b:α}(hi:l[i]? =some a)(hj:l[j]? =some b)(c:i<j):R a b:=by obtain⟨h1,rfl⟩:=Po.1 hi;obtain⟨h2,rfl⟩:=Po.1 hj;exact List.pairwise_iff_getElem.1 h i j h1 h2 c
variable {l:List Str}{a b:Str}
theorem Jv (h0:0<k)(c:l[k.toNat]? =some a)(hb:l[(k+ -1).toNat]? =some b)(hl:lt b a=true)(h:Asc (l.take k.toNat)):Asc (l.take (k+1).toNat):=by
 unfold Asc at h⊢;rw[p7 (by omega) c,List.pairwise_append];refine⟨h,List.pairwise_singleton _ _,fun x hx y hy=>?_⟩;rw[QA.1 hy];obtain⟨i,hi⟩:=Qr.1 hx;have d:i<k.toNat:=by have:=(Po.1 hi).1;rw[PW]at this;omega
 by_cases e:i=(k+ -1).toNat;simp_all;refine lB (De h hi (j:=(k+ -1).toNat) ?_ (by omega)) hl;rw[PS,PG (by omega)];exact hb
def GJ (h0:0<k)(c:l[k.toNat]? =some a)(hb:l[(k+ -1).toNat]? =some b)(h:lt a b=true\/a=b):¬Asc l:=fun hp=>by have:=De hp hb c (by omega);rcases h with h|h;rw[sR this]at h;cases h;rw[h,lt_irrefl]at this;cases this
theorem nJ (h0:0<=k)(c:l[k.toNat]? =some a)(h:iP (l.take k.toNat))(hn:a=[]\/ ∀z∈l.take k.toNat,z≠a):iP (l.take (k+1).toNat):=by unfold iP at h⊢;rw[p7 h0 c,List.pairwise_append];grind
def CM {i j:Nat}(hi:l[i]? =some a)(hj:l[j]? =some b)(c:i<j)(hb:b≠ [])(e:a=b):¬iP l:=fun h=>De h hi hj c hb e
def at0 (a:Att):a.row.getD 0 (.int 0)= .str a.n:=rfl
def at1 (a:Att):a.row.getD 1 (.int 0)= .str a.v:=rfl
def D4 {p:Prop}(h:¬p):(false=true↔p):=⟨fun e=>(by cases e),fun e=>absurd e h⟩
theorem JY {α:Type}{l:List α}{j:Int}(h0:0<=j)(h:j<((l.take k.toNat).length:Int)):∃a,l[j.toNat]? =some a/\(l.take k.toNat)[j.toNat]? =some a/\j<k:=by
 rw[PW]at h;have hj:j.toNat<l.length:=by omega
 exact⟨l[j.toNat],Pw hj,by grind,by omega⟩
theorem Cm (s:c9)(hk:¬s.k=2)(w:s.k=1)(ht:B1 s.t=true)(hy:s.y=[]\/B1 s.y=true)(x0:Sx.Rows)(e0:x0=[s.row]):vcAlone0 x0:=by
 subst e0;have C:V8 s↔(s.x=[]/\s.a.length<=8/\s.c.length<=16/\(∀a∈s.a,B1 a.n=true/\I0 a.v=true)/\Asc (s.a.map Att.n)/\iP (s.c.map c9.y)):=by unfold V8;simp[w,ht,hy]
 have o:∀k:Int,pQ (rows s.c) 0 k=rows (s.c.take k.toNat):=fun k=>by simp[pQ,rows,List.map_take]
 unfold vcAlone0;simp only[Nd,ln,I64,cS,cL,JG,t3,t4,t5,C4,bD,PD,y9,nA,Cq,jA,sL,sI,Kc,A7,D1,J4,W9,gR,Dr,QE,QH,QD,tV,forall_eq',forall_eq,Qy,Qg,Mk,sK,C,o];refine PM (fun hx=>PM (fun h=>D4 fun h'=>by omega) fun G=>PM (fun h=>D4 fun h'=>by omega) fun D=>PM ⟨by omega,by omega,by simp,List.Pairwise.nil⟩ fun _ k ⟨k0,k1,k2,k3⟩=>PM (fun hk=>?_) fun hk=>?_) fun hx=>D4 fun h=>hx h.1
 ·obtain⟨a,p⟩:=Sx.get_at k0 hk;have hm:=Pv p;have hn:=G6 (f:=Att.n) p;rw[List.map_take]at k3;simp only[i4 p,at0,at1,C4];have st:B1 a.n=true->I0 a.v=true-> ∀x∈s.a.take (k+1).toNat,B1 x.n=true/\I0 x.v=true:=fun h1 h2 x hx=>by rw[p7 k0 p,PZ,QA]at hx;rcases hx with hx|rfl;exact k2 x hx;exact⟨h1,h2⟩
  by_cases m:0<k
  ·obtain⟨b,hb⟩:=Sx.get_at (T:=s.a) (i:=k+ -1) (by omega) (by omega);have g:=G6 (f:=Att.n) hb;simp only[i4 hb,at0,C4,List.map_take]
   repeat' first| (refine PM ?_ ?_)|intro _
   all_goals first|omega|exact D4 fun h=>absurd (h.2.2.2.1 a hm).1 ‹_› |exact D4 fun h=>absurd (h.2.2.2.1 a hm).2 ‹_› |exact D4 fun h=>GJ m hn g (.inl ‹_›) h.2.2.2.2.1|exact D4 fun h=>GJ m hn g (.inr ‹_›) h.2.2.2.2.1|exact st ‹_› ‹_› _ ‹_› |exact(st ‹_› ‹_› _ ‹_›).1|exact(st ‹_› ‹_› _ ‹_›).2|exact Jv m hn g (Aj (by unfold lt;simpa using‹¬Op.bytesLess a.n b.n=true›) ‹_›) k3
  ·obtain rfl:k=0:=by omega
   repeat' first| (refine PM ?_ ?_)|intro _
   all_goals first|omega|exact D4 fun h=>absurd (h.2.2.2.1 a hm).1 ‹_› |exact D4 fun h=>absurd (h.2.2.2.1 a hm).2 ‹_› |exact(st ‹_› ‹_› _ ‹_›).1|exact(st ‹_› ‹_› _ ‹_›).2| (rw[p7 (by omega) p];exact List.pairwise_singleton _ _)
 ·rw[A6 (by omega)]at k2 k3;refine PM ⟨by omega,by omega,List.Pairwise.nil⟩ fun _ j ⟨B,I,u⟩=>PM (fun hj=>?_) fun hj=>?_
  ·obtain⟨c,hc⟩:=Sx.get_at B hj;have hy:=G6 (f:=c9.y) hc;have r:((s.c.take j.toNat).length:Int)=j:=by rw[PW];omega
   simp only[O2 hc,t2,C4,r];have nx:iP ((s.c.map c9.y).take (j+1).toNat)->(¬j+1< -9223372036854775808/\j+1<9223372036854775808)/\(¬j+1< -9223372036854775808/\j+1<9223372036854775808->(0<=j+1/\j+1<=(s.c.length:Int)/\iP ((s.c.map c9.y).take (j+1).toNat))/\(0<=j+1/\j+1<=(s.c.length:Int)/\iP ((s.c.map c9.y).take (j+1).toNat)->((s.c.length:Int)-(j+1)).toNat<((s.c.length:Int)-j).toNat)):=
    fun h=>(by grind)
   refine⟨by omega,fun _=>⟨hj,fun _=>⟨fun he=>nx (nJ B hy u (.inl he)),fun he=>⟨by omega,fun _=>⟨by omega,fun _=>⟨⟨by omega,by omega,by simp⟩,fun _ i ⟨i0,H,A⟩=>PM (fun hi=>?_) fun hi=>nx (nJ B hy u (.inr ?_))⟩⟩⟩⟩⟩⟩;obtain⟨d,E,q,F⟩:=JY (l:=s.c) (k:=j) i0 (by omega);simp only[O2 q,t2,C4];refine⟨by omega,fun _=>⟨by omega,fun _=>⟨fun e=>⟨fun h=>by omega,fun _=>D4 fun h=>CM (G6 E) hy (by omega) he e h.2.2.2.2.2⟩,fun e=>⟨⟨by omega,by omega⟩,fun _=>⟨⟨by omega,by omega,fun z hz=>?_⟩,fun _=>by omega⟩⟩⟩⟩⟩;rw[p7 i0 (G6 q),PZ,QA]at hz;rcases hz with hz|rfl;exact A z hz;exact e;rw[A6 (by grind),List.map_take]at A;exact A
  rw[A6 (by grind)]at u;exact⟨fun _=>⟨hx,by omega,by omega,k2,k3,u⟩,fun _=>by trivial⟩
theorem vcAlone_ok :vcAlone:=by
 rintro _ ⟨s,rfl⟩;have d:=Cm s;simp only[Nd,ln,cI,cS,cL,JG,t0,t1,t2,t3,t4,t5,gT,C4,bD,PD,y9,D1,J4,W9,gR,Dr,QE,QH,QD,tV,forall_eq',forall_eq,Qy,Qg];refine⟨fun hk=>?_,fun hk=>⟨fun h1=>⟨fun ht=>⟨fun hy=>d hk h1 ht (.inl hy) _ rfl,fun hy=>⟨fun h2=>d hk h1 ht (.inr h2) _ rfl,fun h2=>D4 fun h=>?_⟩⟩,fun ht=>D4 fun h=>?_⟩,fun h1=>D4 fun h=>?_⟩⟩
 ·have d:V8 s↔(I0 s.x=true/\s.t=[]/\s.y=[]/\s.a=[]/\s.c=[]):=by unfold V8;simp[hk]
  simp_all
 all_goals
  rcases h<;>grind
