/- DiffsApply: the condition of the reference's form holds.
  Conditions: none. -/
import Derived.Test.YtcjhhnoaoldcmaaGreatT5
import Derived.Test.YtcjhhnoaoldcmaaGreatT3
import Derived.Test.YtcjhhnoaoldcmaaGreatT8
set_option linter.all false
set_option maxRecDepth 10000
set_option maxHeartbeats 4000000
namespace Go.D
open Go Go.Xe Go.Sx
open Go.C36 (row)
def EX {s:Stp}{w:Int}{P:Sx.Rows}{n v:Str}{i o k:Int}{t y:Str}{a:Sx.Rows}{x:Str}{c:Sx.Rows}(h:isS s w P n v i o k t y a x c)(e:Int):l5 [.int w,.lst P,.str n,.str v,.int i,.int o,.int k,.str t,.str y,.lst a,.str x,.lst c] [.int e]↔e=R9 s:=tL h e
theorem vcRfm_ok :vcRfm:=by
 unfold vcRfm vcRfm27 vcRfm26 vcRfm25 vcRfm24 vcRfm23 vcRfm22 vcRfm21 vcRfm20 vcRfm19 vcRfm18 vcRfm17 vcRfm16 vcRfm15 vcRfm14 vcRfm13 vcRfm12 vcRfm11 vcRfm10 vcRfm9 vcRfm8 vcRfm7 vcRfm6 vcRfm5 vcRfm4 vcRfm3 vcRfm2 vcRfm1 vcRfm0;rintro w P n v i o k t y a x c ⟨s,h,hb⟩;simp only[Nd,EX h,Li,tK];obtain⟨rfl,rfl,rfl,rfl,rfl,rfl,rfl,rfl,rfl,rfl,rfl,rfl⟩:=h;have b:I64 (ln (s.t.a.map Att.row)+ln (rows s.t.c)):=by obtain⟨h1,h2⟩:=hb;simp only[I64,ln,rows,Kf];omega
 have h0:ln (s.t.a.map Att.row)+ln (rows s.t.c)=0↔s.t.a=[]/\s.t.c=[]:=by
  rw[<-rp (f:=Att.row),<-rp (l:=s.t.c) (f:=a8.row)];have d:0<=ln (s.t.a.map Att.row):=by simp[ln]
  have e:0<=ln (s.t.c.map a8.row):=by simp[ln]
  show _+ln (s.t.c.map a8.row)=0↔_;omega
 have b:=eq_true b;simp only[b,h0,Ld,KF,rp,DU,CR,Gf];clear b h0 hb;obtain⟨w,p,n,v,i,o,⟨k,t,y,a,x,c⟩⟩:=s;simp only[a8.k,a8.t,a8.y,a8.a,a8.x,a8.c,ne_eq];generalize (p=[])=g;generalize (n=[])=n0;generalize (v=[])=j;generalize (t=[])=t0;generalize (y=[])=y0;generalize (a=[])=a0;generalize (x=[])=x0;generalize (c=[])=c0;generalize (i=0)=i0;generalize (o=0)=o0;generalize (k=0)=k0;by_cases h1:w<1
 ·simp[h1]
 by_cases h7:7<w
 ·simp[h1,h7]
 have hw:w=1\/w=2\/w=3\/w=4\/w=5\/w=6\/w=7:=by omega
 clear h1 h7;rcases hw with rfl|rfl|rfl|rfl|rfl|rfl|rfl;all_goals
  simp only[Int.reduceEq,Int.reduceLT,Int.reduceLE,not_true_eq_false,not_false_eq_true,false_and,Ld,Li,and_false,false_or,or_false,true_or,or_true,KF,false_implies,KY,and_self,or_self,not_or,not_and,Decidable.not_not]
  repeat' first
   |refine Ko ?_ ?_
   |intro _
  all_goals first
   |assumption
   | (simp_all;done)
open Go Go.Xe Go.Sx
open Go.C36 (row)
variable {l:List Att}
theorem Dw (h:Asc (l.map Att.n))(s:Str):hC l s=if z8 l s=true then(q8 l s:Int)else-1:=by
 unfold hC;by_cases hi:z8 l s=true
 ·rw[Ki hi];obtain⟨a,ha,e⟩:=dP hi;have hlt:=(JO.1 ha).1;have:l.findIdx? (fun a=>a.n==s)=some (q8 l s):=by
   rw[List.findIdx?_eq_some_iff_getElem];refine⟨hlt,?_,fun j hj=>?_⟩
   ·grind
   ·have h1:=gU hj (JX (by omega));intro h2;have h2:(l[j]'(by omega)).n=s:=by grind
    rw[h2,lt_irrefl]at h1;grind
  grind
 ·rw[Kg hi];have hi:z8 l s=false:=by grind
  have:l.findIdx? (fun a=>a.n==s)=none:=by
   rw[List.findIdx?_eq_none_iff];intro x hx;obtain⟨j,hj⟩:=LU hx;have b:x.n≠s:=by
    intro e;rcases Nat.lt_trichotomy j (q8 l s)with h1|h1|h1
    ·have:=gU h1 hj;rw[e,lt_irrefl]at this;grind
    ·subst h1;have:=tU hi hj;rw[e,lt_irrefl]at this;grind
    ·have:=yu h h1 hj;rw[e,lt_irrefl]at this;grind
   grind
  grind
variable {i:Nat}
def lK {b:Bool}{k:Int}{s:Stp}{a:Att}(h:l[i]? =some a):puF l b k s (i+1)=(let r:=puF l b k s i
  let c:=if r.2=false/\lt a.n s.n=false then(r.1++ [⟨s.n,s.v⟩],true)else r
  (if(i:Int)=k then c.1 else c.1++ [a],c.2)):=by
 conv=>lhs;unfold puF
 rw[h]
def xJ {a:Att}(h:l[i]? =some a):l.take (i+1)=l.take i++ [a]:=by rw[List.take_add_one,h];rfl
theorem mn {k:Nat}{a:Att}(h:l[i]? =some a)(hk:k<=i):(l.take (i+1)).drop k=(l.take i).drop k++ [a]:=by have:=(JO.1 h).1;rw[xJ h,List.drop_append_of_le_length (by grind)]
theorem EH {l:List Att}{k:Nat}{s:Stp}:∀ {i:Nat},i<=l.length->puF l true k s i=(if i<=k then l.take i else l.take k++(l.take i).drop (k+1),true)
 |0,_=>rfl|i+1,hi=>by
  obtain⟨a,ha⟩:∃a,l[i]? =some a:=⟨_,JX (by omega)⟩
  rw[lK ha,EH (by omega)];simp;by_cases h1:i<k
  ·rw[Kg (by omega),Ki (by omega),Ki (by omega),xJ ha]
  ·by_cases h2:i=k
   ·grind
   ·rw[Kg (by omega),Kg (by omega),Kg (by omega),mn ha (by omega),JZ]
theorem EJ {l:List Att}{s:Stp}(k:Int)(hk:k=if z8 l s.n=true then(q8 l s.n:Int)else-1):∀ {i:Nat},i<=l.length->puF l false k s i=if i<=q8 l s.n then(l.take i,false)else(l.take (q8 l s.n)++(⟨s.n,s.v⟩::(l.take i).drop (if z8 l s.n=true then q8 l s.n+1 else q8 l s.n)),true)
 |0,_=>rfl|i+1,hi=>by
  obtain⟨a,ha⟩:∃a,l[i]? =some a:=⟨_,JX (by omega)⟩
  rw[lK ha,EJ k hk (by omega)];by_cases h1:i<q8 l s.n
  ·have b:¬(i:Int)=k:=by omega
   rw[Ki (by omega),Ki (by omega)];simp only[gU h1 ha,Bool.true_eq_false,and_false,LA,Kg b];rw[xJ ha]
  ·by_cases h2:i=q8 l s.n
   ·have hge:=lA (by rw[<-h2];exact ha);rw[Ki (by omega),Kg (by omega)];simp only[hge,and_self,LB];by_cases c:z8 l s.n=true
    ·grind
    ·rw[Kg c]at hk⊢;rw[Kg (by omega),<-h2,mn ha (Kj _),List.drop_of_length_le (by grind)];simp
   ·have b:¬(i:Int)=k:=by omega
    rw[Kg (by omega),Kg (show¬i+1<=q8 l s.n by omega)];simp only[Bool.true_eq_false,false_and,LA,Kg b];rw[mn ha (by grind)];simp
theorem xa {k:Nat}{s:Stp}(hk:k<l.length):puF l true k s l.length=(E8 l k,true):=by rw[EH (Kj _),Kg (by omega),List.take_length];unfold E8;grind
theorem xb {s:Stp}(k:Int)(hk:k=if z8 l s.n=true then(q8 l s.n:Int)else-1):(if(puF l false k s l.length).2=true then(puF l false k s l.length).1 else(puF l false k s l.length).1++ [⟨s.n,s.v⟩])=fy l s:=by
 rw[EJ k hk (Kj _)];have b:=lB l s.n;by_cases h:l.length<=q8 l s.n
 ·have e:q8 l s.n=l.length:=by omega
  have a:z8 l s.n=false:=by unfold z8;rw[e,LQ (Kj _)]
  unfold fy G7;grind
 ·rw[Kg h,List.take_length];unfold fy G7;by_cases a:z8 l s.n=true
  ·rw[Ki a,Ki a,Ki rfl,List.set_eq_take_append_cons_drop,Ki (by omega)]
  ·grind
open Go Go.Xe Go.Sx
open Go.C36 (row)
variable {l:List Att}
def CQ {m:List Att}(h:l.map Att.row=m.map Att.row):m=l:=(Sx.map_inj_of (fun a b e=>by cases a;simp only[Att.row,Le,Dat.str.injEq,Li]at e;rw[e.1,e.2]) h).symm
def uA {l:List Att}{b:Bool}{k:Int}{s s':Stp}(hn:s.n=s'.n)(a:s.v=s'.v):∀i,puF l b k s i=puF l b k s' i
 |0=>rfl|i+1=>by unfold puF;rw[uA hn a i,hn,a]
theorem EI {l:List Att}{b:Bool}{k:Int}{s:Stp}:∀i,(puF l b k s i).1.length<=2*i
 |0=>by simp[puF]|i+1=>by
  have c:=EI (l:=l) (b:=b) (k:=k) (s:=s) i;cases h:l[i]? with
  |none=>unfold puF;grind|some a=>rw[lK h];grind
theorem pinv {s:Stp}{k i:Int}{R:Sx.Rows}{b:Bool}:dX [.lst (l.map Att.row),.str s.n,.str s.v,.int k,.int s.w] [.int i,.lst R,.bool b]↔0<=i/\i<=(l.length:Int)/\R=(puF l (decide (s.w=1)) k s i.toNat).1.map Att.row/\b=(puF l (decide (s.w=1)) k s i.toNat).2:=by
 have d:ln (l.map Att.row)=(l.length:Int):=by grind
 simp only[dX,d];constructor
 ·grind
 ·rintro ⟨h0,h1,h2,h3⟩;refine⟨h0,h1,fun l' s' a hn c hw=>?_⟩;rw[CQ a,<-hw,<-uA hn c];grind
theorem rca2 {n:Nat}{s:Stp}{k:Int}(hl:l.length<=1000){L:Int}{M g h:Ae}{j y:Sx.Rows}{z A B:Int}{C D:Ae}{E:Sx.Rows}{F:Ae}{G H:Sx.Rows}(p:∀R:List Att,R=(if(puF l (decide (s.w=1)) k s l.length).2=true then(puF l (decide (s.w=1)) k s l.length).1 else(puF l (decide (s.w=1)) k s l.length).1++ [⟨s.n,s.v⟩])->M1 [.int L,.str M,.str g,.lst (l.map Att.row),.str h,.lst j,.int s.w,.lst y,.str s.n,.str s.v,.int z,.int A,.int B,.str C,.str D,.lst E,.str F,.lst G,.lst H] [.int L,.str M,.str g,.lst (R.map Att.row),.str h,.lst j,.int 0]):vcRca2 n (l.map Att.row) s.n s.v k s.w L M g h j y z A B C D E F G H:=by
 have x:ln (l.map Att.row)=(l.length:Int):=by grind
 have ch:∀a b:Str,Sx.chunk 2 1 [.str a,.str b]=[Att.row ⟨a,b⟩]:=fun a b=>rfl;rintro i R b r;obtain⟨h0,h1,f,hb⟩:=pinv.1 r;have t:=EI (l:=l) (b:=decide (s.w=1)) (k:=k) (s:=s) i.toNat;have u:ln R=((puF l (decide (s.w=1)) k s i.toNat).1.length:Int):=by rw[f];simp[ln]
 refine⟨fun c=>?_,fun c=>?_⟩
 ·rw[x]at c;obtain⟨a,ha⟩:=Sx.get_at h0 c;have I:cS (l.map Att.row) i 0=a.n:=by simp only[cS,B4 ha,Att.row];rfl
  have O:cS (l.map Att.row) i 1=a.v:=by simp only[cS,B4 ha,Att.row];rfl
  have J:(i+1).toNat=i.toNat+1:=by omega
  have P:((i.toNat:Nat):Int)=i:=by omega
  have d:I64 (i+1):=by omega
  have mu:∀ {N m:Sx.Rows} {b' o:Bool},nh [.lst (l.map Att.row),.str s.n,.str s.v,.int k,.int s.w] [.int (i+1),.lst N,.bool b']<nh [.lst (l.map Att.row),.str s.n,.str s.v,.int k,.int s.w] [.int i,.lst m,.bool o]:=by intro N m b' o;show(ln (l.map Att.row)-(i+1)).toNat<(ln (l.map Att.row)-i).toNat;omega
  have st:=lK (b:=decide (s.w=1)) (k:=k) (s:=s) ha;rw[P]at st;have keep:¬(b=false/\lt a.n s.n=false)->vcRca1 n i k R (l.map Att.row) s.n s.v s.w b:=by
   intro hn;have K:¬((puF l (decide (s.w=1)) k s i.toNat).2=false/\lt a.n s.n=false):=by rw[<-hb];exact hn
   simp only[Kg K]at st;unfold vcRca1;simp only[Nd,Ni,Nr,I,O,ch,pinv,J,st,mu,x,u,Li,Ld,KF,KY];refine⟨fun hk=>?_,fun hk=>?_⟩
   ·rw[Ki hk];exact(by grind)
   ·rw[Kg hk];refine⟨by omega,fun _=>⟨c,fun _=>⟨by omega,fun _=>⟨by omega,fun _=>⟨d,fun _=>⟨by omega,fun _=>⟨by omega,by omega,?_,hb⟩⟩⟩⟩⟩⟩⟩;rw[f];simp
  refine⟨fun q=>keep (by grind),fun e=>⟨by omega,fun _=>⟨by rw[x];exact c,fun _=>⟨fun hlt=>keep ?_,fun hlt=>?_⟩⟩⟩⟩
  ·rw[I]at hlt;have hlt:lt a.n s.n=true:=hlt;rw[hlt];simp
  ·rw[I]at hlt;have hlt:lt a.n s.n=false:=by simpa [lt]using hlt
   have e:b=false:=by simpa using e
   have hp:(puF l (decide (s.w=1)) k s i.toNat).2=false/\lt a.n s.n=false:=(by grind)
   simp only[Ki hp]at st;simp only[Nd,Ni,Nr,I,O,ch,pinv,J,st,mu,x,u,Li,Ld,KF,KY];refine⟨by omega,fun _=>⟨by omega,fun _=>⟨fun hk=>?_,fun hk=>?_⟩⟩⟩
   ·rw[Ki hk];refine⟨d,fun _=>⟨by omega,fun _=>⟨by omega,by omega,?_⟩⟩⟩;rw[f];simp
   ·rw[Kg hk];refine⟨by omega,fun _=>⟨c,fun _=>⟨by omega,fun _=>⟨by omega,fun _=>⟨d,fun _=>⟨by omega,fun _=>⟨by omega,by omega,?_⟩⟩⟩⟩⟩⟩⟩;rw[f];simp
 ·rw[x]at c;have J:i.toNat=l.length:=by omega
  rw[J]at f hb t u;refine⟨fun q=>?_,fun e=>?_⟩
  ·have:=p _ rfl;rw[<-hb,Ki q,<-f]at this;simp only[Nd,Ni,Nr,u,Li,Ld,KF,KY];exact⟨by omega,fun _=>this⟩
  ·have:=p _ rfl;rw[<-hb,Kg e,KI,<-f]at this;simp only[Nd,Ni,Nr,u,Li,Ld,KF,KY,ch];exact(by grind)
end Go.D
