/- Trees: plain lemmas; the conditions of named, text and alone hold.
  Conditions: none. -/
import Derived.Test.YtcjhhnoaoldcmaaGreatA2
set_option linter.all false
namespace Go.D
open Go Go.Xe Go.Sx
theorem lD {s:Str}{k:Int}(h0:0<=k)(h1:k<(s.length:Int)):∃b,s[k.toNat]? =some b/\byteAt s k=b.toNat:=by obtain⟨b,hb⟩:=Sx.get_at h0 h1;refine⟨b,hb,?_⟩;unfold byteAt;grind
variable {p:UInt8->Bool}{k:Nat}{b:UInt8}
theorem gR {s:Str}(h:s[k]? =some b)(hb:p b=false):s.all p=false:=by grind
theorem gS {s:Str}{k:Int}(h:s[k.toNat]? =some b)(h0:0<=k)(ha:(s.take k.toNat).all p=true)(hb:p b=true):(s.take (k+1).toNat).all p=true:=by rw[nS h0,iF h,List.all_append,ha];grind
def uo (h:(97<=b.toNat/\b.toNat<=122)\/(48<=b.toNat/\b.toNat<=57)):fN b=true:=by unfold fN;simp;exact h
def pK (h:¬((97<=b.toNat/\b.toNat<=122)\/(48<=b.toNat/\b.toNat<=57))):fN b=false:=by
 cases hb:fN b with
 |false=>rfl|true=>unfold fN at hb;simp at hb;exact absurd hb h
def qg {s:Str}(h:s.all fN=false):j8 s=false:=by unfold j8;rw[h];simp
theorem fk {s:Str}(h:s.length<1\/16<s.length):j8 s=false:=by unfold j8;grind
theorem qh {s:Str}(h0:1<=s.length)(h1:s.length<=16)(h:s.all fN=true):j8 s=true:=by unfold j8;grind
def Z6 {s:Str}{k:Int}(h:(s.take k.toNat).all p=true)(hk:(s.length:Int)<=k):s.all p=true:=by rwa[KK (by omega)]at h
def vcNamed_ok :vcNamed:=by
 unfold vcNamed vcNamed0 Nd;intro s hp;simp only[ln,I64,B8,kE,Eu,N0,KY,Li];refine Ko (fun h=>(fk (.inl (by omega))).symm) fun h=>Ko (fun h2=>(fk (.inr (by omega))).symm) fun h2=>Ko ⟨by omega,by omega,rfl⟩ fun _ k ⟨k0,k1,k2⟩=>Ko (fun hk=>?_) fun hk=>?_
 ·obtain⟨b,hb,a⟩:=lD k0 hk
  repeat' first| (refine Ko ?_ ?_)|intro _
  all_goals first|omega|exact(qg (gR hb (pK (by omega)))).symm|exact gS hb k0 k2 (uo (by omega))
 ·exact(qh (by omega) (by omega) (Z6 k2 (by omega))).symm
def zU (h0:32<=b.toNat)(h1:b.toNat<=126):vk b=true:=by unfold vk;rw[decide_eq_true h0,decide_eq_true h1];rfl
theorem nL (h:b.toNat<32\/126<b.toNat):vk b=false:=by unfold vk;grind
def nX {s:Str}(h:s.all vk=false):A9 s=false:=by unfold A9;rw[h];simp
def vu {s:Str}(h:64<s.length):A9 s=false:=by unfold A9;rw[Ll (by omega)];rfl
def vw {s:Str}(h1:s.length<=64)(h:s.all vk=true):A9 s=true:=by unfold A9;rw[decide_eq_true h1,h];rfl
theorem tO {s:Str}(h:s[k]? =some b):(⟨s.toArray⟩:ByteArray).get! (k+0)=b:=by show s.toArray[k+0]! =b;grind
theorem xl {s:Str}(h:s[k]? =some b)(hb:b.toNat<128):runeAt s k=b.toNat/\runeW s k=1:=by
 have hd:Utf8.decode ⟨s.toArray⟩ k=(b.toNat,1):=by simp only[Utf8.decode,tO h];grind
 unfold runeAt runeW;grind
theorem xj {s:Str}(h:s[k]? =some b)(hb:128<=b.toNat):128<=runeAt s k:=by
 have hd:128<=(Utf8.decode ⟨s.toArray⟩ k).1:=by
  simp only[Utf8.decode,tO h];rw[Kg (by omega)];split
  ·split
   ·grind
   ·decide
  ·split
   ·split
    ·grind
    ·decide
   ·split
    ·split
     ·grind
     ·decide
    ·decide
 unfold runeAt;grind
def vcText_ok :vcText:=by
 unfold vcText Nd;intro s hp;simp only[ln,J5,nF,stMu,N0,KY,Li,Ld,KF];refine Ko (fun h=>(vu (by omega)).symm) fun h=>Ko ⟨by omega,by omega,rfl⟩ fun _ k ⟨k0,k1,k2⟩=>Ko (fun hk=>?_) fun hk=>(vw (by omega) (Z6 k2 (by omega))).symm;obtain⟨b,hb,f⟩:=lD k0 hk;have e:((k.toNat:Nat):Int)=k:=by omega
 have hd:decide (k<0)=false:=Ll (by omega);rw[hd];by_cases a:b.toNat<128
 ·obtain⟨c,d⟩:=xl hb a;rw[e]at c d;rw[c,d]
  repeat' first| (refine Ko ?_ ?_)|intro _
  all_goals first|omega|exact(nX (gR hb (nL (by omega)))).symm|exact gS hb k0 k2 (zU (by omega) (by omega))
 ·have c:=xj hb (by omega);rw[e]at c
  repeat' first| (refine Ko ?_ ?_)|intro _
  all_goals first|omega|exact(nX (gR hb (nL (by omega)))).symm
def lt_irrefl :∀a:Str,lt a a=false
 | []=>rfl|a::x=>by have:=lt_irrefl x;unfold lt at this⊢;simp[Op.bytesLess,this]
theorem hU :∀ {a b c:Str},lt a b=true->lt b c=true->lt a c=true
 |_,[],_,h,_=>by unfold lt at h;cases‹Ae› <;>simp[Op.bytesLess]at h
 |_,_::_,[],_,h=>by unfold lt at h;simp[Op.bytesLess]at h| [],_::_,_::_,_,_=>rfl|a::x,b::y,c::z,h,k=>by
  unfold lt at h k⊢;simp only[Op.bytesLess,Lm,Kh,JM,beq_iff_eq]at h k⊢;rcases h with h| ⟨rfl,h⟩
  ·grind
  ·rcases k with k| ⟨rfl,k⟩
   ·grind
   ·exact .inr ⟨rfl,hU h k⟩
theorem rv :∀ {a b:Str},lt a b=false->a≠b->lt b a=true
 | [],[],_,h=>absurd rfl h| [],b::y,h,_=>by unfold lt at h;simp[Op.bytesLess]at h|a::x,[],_,_=>rfl|a::x,b::y,h,k=>by
  unfold lt at h⊢;simp only[Op.bytesLess,Bool.or_eq_false_iff,KJ,Bool.and_eq_false_iff,Lm,Kh,JM,beq_iff_eq]at h⊢;by_cases e:a=b
  ·subst e;refine .inr ⟨rfl,rv (by rcases h.2 with h2|h2;simp at h2;exact h2) fun e=>k (by grind)⟩
  ·grind
def DZ {a b:Str}(h:lt a b=true):lt b a=false:=by
 cases hb:lt b a with
 |false=>rfl|true=>have:=hU h hb;rw[lt_irrefl]at this;cases this
def H9 (s:a8):s.row=[.int s.k,.str s.t,.str s.y,.lst (s.a.map Att.row),.str s.x,.lst (rows s.c)]:=by
 have h:∀l:List a8,a8.rows l=rows l:=fun l=>by induction l with|nil=>rfl|cons a l d=>simp[a8.rows,rows,d]
 cases s;simp[a8.row,a8.k,a8.t,a8.y,a8.a,a8.x,a8.c,h]
theorem iY {a b:List Att}(h:a.map Att.row=b.map Att.row):a=b:=by
 have e:∀l:List Att,(l.map Att.row).map atOf=l:=fun l=>by rw[List.map_map];exact List.map_id' l
 grind
mutual
def lM :∀ {s t:a8},s.row=t.row->s=t
 | .mk ..,.mk ..,h=>by simp only[a8.row,Le,Dat.int.injEq,Dat.str.injEq,Dat.lst.injEq,Li]at h;obtain⟨rfl,rfl,rfl,h1,rfl,h2⟩:=h;rw[iY h1,rows_inj h2]
def rows_inj :∀ {l m:List a8},a8.rows l=a8.rows m->l=m
 | [],[],_=>rfl| [],_::_,h=>by cases h
 |_::_,[],h=>by cases h
 |s::l,t::m,h=>by simp only[a8.rows,Le]at h;rw[lM h.1,rows_inj h.2]
end
def nn {s t:a8}:(s.row=t.row)=(s=t):=propext ⟨lM,fun h=>h▸rfl⟩
theorem zz {l m:List a8}:(rows l=rows m)=(l=m):=propext ⟨fun h=>by
 induction l generalizing m with
 |nil=>simp_all|cons a l c=>cases m with|nil=>cases h|cons b m=>simp at h;rw[lM h.1,c h.2],fun h=>h▸rfl⟩
def Gq (l:List Att):ats (l.map Att.row)=l:=by unfold ats;rw[List.map_map];exact List.map_id' l
def vr {s t:a8}(h0:s.k=t.k)(h1:s.t=t.t)(h2:s.y=t.y)(h3:s.a=t.a)(h4:s.x=t.x)(h5:s.c=t.c):s=t:=by cases s;cases t;subst h0 h1 h2 h3 h4 h5;rfl
def E3 {s c:a8}:isT s c.k c.t c.y (c.a.map Att.row) c.x (rows c.c)=(s=c):=propext ⟨fun⟨h0,h1,h2,h3,h4,h5⟩=>vr h0.symm h1.symm h2.symm (iY h3).symm h4.symm (zz.mp h5).symm,fun h=>by subst h;exact⟨rfl,rfl,rfl,rfl,rfl,rfl⟩⟩
def t0 (c:a8):c.row.getD 0 (.int 0)= .int c.k:=by rw[H9];rfl
def t1 (c:a8):c.row.getD 1 (.int 0)= .str c.t:=by rw[H9];rfl
def t2 (c:a8):c.row.getD 2 (.int 0)= .str c.y:=by rw[H9];rfl
def t3 (c:a8):c.row.getD 3 (.int 0)= .lst (c.a.map Att.row):=by rw[H9];rfl
def t4 (c:a8):c.row.getD 4 (.int 0)= .str c.x:=by rw[H9];rfl
def t5 (c:a8):c.row.getD 5 (.int 0)= .lst (rows c.c):=by rw[H9];rfl
def Dd (r:As)(j:Nat):H6 [r] 0 j=r.getD j (.int 0):=rfl
def part1 (r:As):Sx.part [r] 0 1=[r]:=rfl
def K5 {l:List a8}{i:Int}{c:a8}(h:l[i.toNat]? =some c)(j:Nat):H6 (rows l) i j=c.row.getD j (.int 0):=B4 h j
def bW (l:List a8):hK (rows l)=l.map a8.y:=by unfold hK rows;rw[List.map_map];exact List.map_congr_left fun c _=>by simp only[Function.comp,t2,v9]
theorem EE {l:List a8}{i:Int}{c:a8}(h:l[i.toNat]? =some c):Sx.part (rows l) i 1=[c.row]:=by
 unfold Sx.part rows;have:=(JO.1 h)
 rw[List.drop_eq_getElem_cons (by grind)];grind
open Go Go.Xe Go.Sx
variable {k:Int}
def s8 {α:Type}{l:List α}{a:α}(h0:0<=k)(h:l[k.toNat]? =some a):l.take (k+1).toNat=l.take k.toNat++ [a]:=by rw[nS h0,iF h]
def E0 {α:Type}{l:List α}(h:(l.length:Int)<=k):l.take k.toNat=l:=KK (by omega)
theorem J4 {α c:Type}{f:α->c}{l:List α}{k:Nat}{a:α}(h:l[k]? =some a):(l.map f)[k]? =some (f a):=by grind
def zt {α:Type}{R:α->α->Prop}{l:List α}(h:l.Pairwise R){i j:Nat}{a b:α}(hi:l[i]? =some a)(hj:l[j]? =some b)(c:i<j):R a b:=by obtain⟨h1,rfl⟩:=JO.1 hi;obtain⟨h2,rfl⟩:=JO.1 hj;exact List.pairwise_iff_getElem.1 h i j h1 h2 c
variable {l:List Str}{b:Str}
theorem CN {a:Str}(h0:0<k)(ha:l[k.toNat]? =some a)(hb:l[(k+ -1).toNat]? =some b)(hl:lt b a=true)(h:Asc (l.take k.toNat)):Asc (l.take (k+1).toNat):=by
 unfold Asc at h⊢;rw[s8 (by omega) ha,List.pairwise_append];refine⟨h,List.pairwise_singleton _ _,fun x hx y hy=>?_⟩;rw[La.1 hy];obtain⟨i,hi⟩:=KQ.1 hx;have c:i<k.toNat:=by have:=(JO.1 hi).1;rw[Kv]at this;omega
 by_cases e:i=(k+ -1).toNat
 ·simp_all
 ·refine hU (zt h hi (j:=(k+ -1).toNat) ?_ (by omega)) hl;rw[Kt,Ki (by omega)];exact hb
def yq {a:Str}(h0:0<k)(ha:l[k.toNat]? =some a)(hb:l[(k+ -1).toNat]? =some b)(h:lt a b=true\/a=b):¬Asc l:=fun hp=>by
 have:=zt hp hb ha (by omega);rcases h with h|h
 ·rw[DZ this]at h;cases h
 ·rw[h,lt_irrefl]at this;cases this
theorem jg {a:Str}(h0:0<=k)(ha:l[k.toNat]? =some a)(h:gO (l.take k.toNat))(hn:a=[]\/ ∀z∈l.take k.toNat,z≠a):gO (l.take (k+1).toNat):=by unfold gO at h⊢;rw[s8 h0 ha,List.pairwise_append];grind
def tX {i j:Nat}{a:Str}(hi:l[i]? =some a)(hj:l[j]? =some b)(c:i<j)(hb:b≠ [])(e:a=b):¬gO l:=fun h=>zt h hi hj c hb e
def at0 (a:Att):a.row.getD 0 (.int 0)= .str a.n:=rfl
def at1 (a:Att):a.row.getD 1 (.int 0)= .str a.v:=rfl
def C9 {p:Prop}(h:¬p):(false=true↔p):=⟨fun e=>(by cases e),fun e=>absurd e h⟩
theorem DD {α:Type}{l:List α}{j:Int}(h0:0<=j)(h:j<((l.take k.toNat).length:Int)):∃a,l[j.toNat]? =some a/\(l.take k.toNat)[j.toNat]? =some a/\j<k:=by
 rw[Kv]at h;have hj:j.toNat<l.length:=by omega
 exact⟨l[j.toNat],JX hj,by grind,by omega⟩
theorem sX (s:a8)(hk:¬s.k=2)(u:s.k=1)(ht:j8 s.t=true)(hy:s.y=[]\/j8 s.y=true)(x0:Sx.Rows)(e0:x0=[s.row]):vcAlone0 x0:=by
 subst e0;have B:de s↔(s.x=[]/\s.a.length<=8/\s.c.length<=16/\(∀a∈s.a,j8 a.n=true/\A9 a.v=true)/\Asc (s.a.map Att.n)/\gO (s.c.map a8.y)):=by unfold de;simp[u,ht,hy]
 have o:∀k:Int,Sx.part (rows s.c) 0 k=rows (s.c.take k.toNat):=fun k=>by simp[Sx.part,rows,List.map_take]
 unfold vcAlone0;simp only[Nd,ln,I64,cS,cL,Dd,t3,t4,t5,v9,bD,Kf,n9,iZ,sZ,gf,mH,mw,DF,N0,B8,J5,X9,eZ,uN,Le,Li,Ld,nn,forall_eq',forall_eq,KY,KF,Gq,bW,B,o];refine Ko (fun hx=>Ko (fun h=>C9 fun h'=>by omega) fun E=>Ko (fun h=>C9 fun h'=>by omega) fun C=>Ko ⟨by omega,by omega,by simp,List.Pairwise.nil⟩ fun _ k ⟨k0,k1,k2,k3⟩=>Ko (fun hk=>?_) fun hk=>?_) fun hx=>C9 fun h=>hx h.1
 ·obtain⟨a,ha⟩:=Sx.get_at k0 hk;have hm:=JV ha;have hn:=J4 (f:=Att.n) ha;rw[List.map_take]at k3;simp only[B4 ha,at0,at1,v9];have st:j8 a.n=true->A9 a.v=true-> ∀x∈s.a.take (k+1).toNat,j8 x.n=true/\A9 x.v=true:=fun h1 h2 x hx=>by
   rw[s8 k0 ha,Kx,La]at hx;rcases hx with hx|rfl
   ·exact k2 x hx
   ·exact⟨h1,h2⟩
  by_cases m:0<k
  ·obtain⟨b,hb⟩:=Sx.get_at (T:=s.a) (i:=k+ -1) (by omega) (by omega);have g:=J4 (f:=Att.n) hb;simp only[B4 hb,at0,v9,List.map_take]
   repeat' first| (refine Ko ?_ ?_)|intro _
   all_goals first|omega|exact C9 fun h=>absurd (h.2.2.2.1 a hm).1 ‹_› |exact C9 fun h=>absurd (h.2.2.2.1 a hm).2 ‹_› |exact C9 fun h=>yq m hn g (.inl ‹_›) h.2.2.2.2.1|exact C9 fun h=>yq m hn g (.inr ‹_›) h.2.2.2.2.1|exact st ‹_› ‹_› _ ‹_› |exact(st ‹_› ‹_› _ ‹_›).1|exact(st ‹_› ‹_› _ ‹_›).2|exact CN m hn g (rv (by unfold lt;simpa using‹¬Op.bytesLess a.n b.n=true›) ‹_›) k3
  ·obtain rfl:k=0:=by omega
   repeat' first| (refine Ko ?_ ?_)|intro _
   all_goals first|omega|exact C9 fun h=>absurd (h.2.2.2.1 a hm).1 ‹_› |exact C9 fun h=>absurd (h.2.2.2.1 a hm).2 ‹_› |exact(st ‹_› ‹_› _ ‹_›).1|exact(st ‹_› ‹_› _ ‹_›).2| (rw[s8 (by omega) ha];exact List.pairwise_singleton _ _)
 ·rw[E0 (by omega)]at k2 k3;refine Ko ⟨by omega,by omega,List.Pairwise.nil⟩ fun _ j ⟨A,G,r⟩=>Ko (fun hj=>?_) fun hj=>?_
  ·obtain⟨c,hc⟩:=Sx.get_at A hj;have hy:=J4 (f:=a8.y) hc;have q:((s.c.take j.toNat).length:Int)=j:=by rw[Kv];omega
   simp only[K5 hc,t2,v9,q];have nx:gO ((s.c.map a8.y).take (j+1).toNat)->(¬j+1< -9223372036854775808/\j+1<9223372036854775808)/\(¬j+1< -9223372036854775808/\j+1<9223372036854775808->(0<=j+1/\j+1<=(s.c.length:Int)/\gO ((s.c.map a8.y).take (j+1).toNat))/\(0<=j+1/\j+1<=(s.c.length:Int)/\gO ((s.c.map a8.y).take (j+1).toNat)->((s.c.length:Int)-(j+1)).toNat<((s.c.length:Int)-j).toNat)):=
    fun h=>(by grind)
   refine⟨by omega,fun _=>⟨hj,fun _=>⟨fun he=>nx (jg A hy r (.inl he)),fun he=>⟨by omega,fun _=>⟨by omega,fun _=>⟨⟨by omega,by omega,by simp⟩,fun _ i ⟨i0,F,w⟩=>Ko (fun hi=>?_) fun hi=>nx (jg A hy r (.inr ?_))⟩⟩⟩⟩⟩⟩
   ·obtain⟨d,hd,p,D⟩:=DD (l:=s.c) (k:=j) i0 (by omega);simp only[K5 p,t2,v9];refine⟨by omega,fun _=>⟨by omega,fun _=>⟨fun e=>⟨fun h=>by omega,fun _=>C9 fun h=>tX (J4 hd) hy (by omega) he e h.2.2.2.2.2⟩,fun e=>⟨⟨by omega,by omega⟩,fun _=>⟨⟨by omega,by omega,fun z hz=>?_⟩,fun _=>by omega⟩⟩⟩⟩⟩;rw[s8 i0 (J4 p),Kx,La]at hz;rcases hz with hz|rfl
    ·exact w z hz
    ·exact e
   ·rw[E0 (by grind),List.map_take]at w;exact w
  ·rw[E0 (by grind)]at r;exact⟨fun _=>⟨hx,by omega,by omega,k2,k3,r⟩,fun _=>by trivial⟩
theorem vcAlone_ok :vcAlone:=by
 rintro _ ⟨s,rfl⟩;have d:=sX s;simp only[Nd,ln,cI,cS,cL,Dd,t0,t1,t2,t3,t4,t5,fg,v9,bD,Kf,n9,B8,J5,X9,eZ,uN,Le,Li,Ld,nn,forall_eq',forall_eq,KY,KF];refine⟨fun hk=>?_,fun hk=>⟨fun h1=>⟨fun ht=>⟨fun hy=>d hk h1 ht (.inl hy) _ rfl,fun hy=>⟨fun h2=>d hk h1 ht (.inr h2) _ rfl,fun h2=>C9 fun h=>?_⟩⟩,fun ht=>C9 fun h=>?_⟩,fun h1=>C9 fun h=>?_⟩⟩
 ·have d:de s↔(A9 s.x=true/\s.t=[]/\s.y=[]/\s.a=[]/\s.c=[]):=by unfold de;simp[hk]
  simp_all
 all_goals
  rcases h<;>grind
end Go.D
