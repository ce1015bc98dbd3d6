/- One edit of attributes: the conditions hold.
  Conditions: none. -/
import Derived.Test.YtoegfalhkackeaaGreatC5
set_option linter.all false
noncomputable section
namespace Go.D
open Go Go.Xe Go.Sx
def vcCmp_ok :vcCmp:=by intro a b _;refine⟨fun _=>⟨fun _=>⟨fun h=>ndt ?_,fun h=>ndi h ⟨fun e=>ndt ?_,fun e=>ndt ?_⟩⟩,fun h=>absurd rfl h⟩,fun h=>absurd rfl h⟩<;>show _=EL _ _<;>unfold EL lt;rw[Rh h];rw[Re h,Rh e];rw[Re h,Re e]
def oJ {e e':Ed}(h: [e.row]=[e'.row]):e=e':=by obtain⟨n,d,v⟩:=e;obtain⟨n',a,v'⟩:=e';simp only[Ed.row,Sj,Dat.str.injEq,Dat.bool.injEq,Sq]at h;obtain⟨rfl,rfl,rfl⟩:=h;rfl
def IL {n v:Str}:z5 (.mk 1 [97] [] [⟨n,v⟩] [] [])↔C9 n=true/\N9 v=true:=by
 have:C9 [97]=true:=by decide
 simp[z5,U7,AllAs,Z5,a9.k,a9.x,a9.t,a9.y,a9.a,a9.c,a9.size,a9.sizes,a9.depth,a9.depths,jT,Asc,this]
def vcCed_ok :vcCed:=by
 rintro _ ⟨e,rfl⟩;have p:ln [e.row]=1:=rfl;refine ndi ⟨by omega,by simp,fun _ _ h=>by omega⟩ fun i hI=>?_;obtain⟨i0,c,hi⟩:=hI;have hi:=hi e rfl;have c:i<=1:=c;refine⟨fun h1=>?_,fun h1=>ndi (Sd _) fun j hj=>⟨fun h=>?_,fun h=>ndt fun e' he=>?_⟩⟩
 ·have z:i=0:=by omega
  subst z;have f:cS [e.row] 0 0=e.n:=rfl;have g:cS [e.row] 0 2=e.v:=rfl;have m:cB [e.row] 0 1=e.d:=rfl;rw[f,g,m];refine ndi (by omega) (ndi h1 (ndi ⟨.mk 1 [97] [] [⟨e.n,e.v⟩] [] [],rfl,rfl,rfl,rfl,rfl,rfl⟩ fun r hr=>?_));have hr:=(hr (.mk 1 [97] [] [⟨e.n,e.v⟩] [] []) ⟨rfl,rfl,rfl,rfl,rfl,rfl⟩).1;rw[IL]at hr;have a:qX e=true->Nd (I64 (0+1)) (Nd (wX [.lst [e.row]] [.int (0+1)]) (Nd (EI [.lst [e.row]] [.int (0+1)]<EI [.lst [e.row]] [.int 0]) True)):=fun h=>
   ndi (by unfold I64;omega) (ndi ⟨by omega,by simp,fun e' he _=>by cases oJ he;exact h⟩ (ndt (by show(((1:Nat):Int)-(0+1)).toNat<(((1:Nat):Int)-0).toNat;decide)))
  refine⟨fun r0=>⟨fun b=>⟨fun hv=>a ?_,fun hv=>ndt fun e' he=>?_⟩,fun b=>a ?_⟩,fun r0=>ndt fun e' he=>?_⟩;obtain⟨h2,h3⟩:=hr.1 r0;rw[hv]at h3;simp[qX,h2,h3,hv];cases oJ he;simp[qX,b,hv];obtain⟨h2,h3⟩:=hr.1 r0;simp[qX,h2,h3,b];cases oJ he;constructor;intro h;omega;intro h;simp[qX]at h;exact absurd (hr.2 h.1) r0
 have hj:1<=j:=hj;omega;cases oJ he;exact⟨fun _=>hi (by omega),fun _=>rfl⟩
section
variable {l :List Att}{e:Ed}{i k r:Int}{o:List Att}
def MgK (l:List Att)(e:Ed)(i k:Int)(o:List Att)(r:Int):Prop:=((r=0/\iY l e i k=bad1 l e)\/(r=11/\bad1 l e=true))/\(o.length:Int)<=i+k/\o++fO l e i k=fD l e
def xT (i0:0<=i)(a:i<=l.length)(k0:0<=k)(k1:k<=1)(h:MgK l e i k o r):eT [.lst (l.map Att.row),.lst [e.row]] [.int i,.int k,.lst (o.map Att.row),.int r]:=
 ⟨i0,by rw[Rc];exact a,k0,k1,fun l' e' h1 h2=>by cases bG h1;cases oJ h2;exact⟨h.1,o,rfl,h.2⟩⟩
def tI (o:List Att)(n v:Str):o.map Att.row++d8 2 1 [.str n,.str v]=(o++ [(⟨n,v⟩:Att)]).map Att.row:=by rw[RH];rfl
def vcApp0_ok (hl:l.length<=8)(i0:0<=i)(b:i<=l.length)(hk:k=0)(h:MgK l e i k o r)(hq:fO l e i 0=edA e++fO l e i 1)(hb:iY l e i 0=e.d):vcApp0 k (l.map Att.row) (o.map Att.row) [e.row] i r:=by
 subst hk;obtain⟨h1,h2,h3⟩:=h;have c:cS [e.row] 0 0=e.n:=rfl;have f:cS [e.row] 0 2=e.v:=rfl;have g:cB [e.row] 0 1=e.d:=rfl;have lo:ln (o.map Att.row)=(o.length:Int):=by simp[ln]
 have j:(0:Int)+1=1:=rfl;rw[hb]at h1;unfold vcApp0;rw[c,f,g,tI o e.n e.v,j];refine⟨fun h=>by omega,fun _=>ndi (by omega) (ndi (show(0:Int)<1 by omega) ⟨fun a=>?_,fun a=>?_⟩)⟩;refine ndi (by unfold I64;omega) (nin (nrn (ndi (xT i0 b (by omega) (by omega) ⟨.inr ⟨rfl,?_⟩,by omega,?_⟩) (ndt ?_))));rcases h1 with h1|h1;rw[<-h1.2];exact a;exact h1.2;rw[hq,edA,Rh a]at h3;exact h3;simp only[aM,Rc,RC,Tc];omega;refine ndi (by omega) (ndi (show(0:Int)<1 by omega) (ndi (by omega) (ndi (show(0:Int)<1 by omega) (nin (ndi (by omega) (nrn (ndi (by unfold I64;omega) (nin (nrn (ndi (xT i0 b (by omega) (by omega) ⟨?_,by simp;omega,?_⟩) (ndt ?_)))))))))));rcases h1 with h1|h1;exact .inl ⟨h1.1,by rw[<-h1.2];unfold iY;rw[Re (by omega)];simpa using a⟩;exact .inr h1;rw[hq,edA,Re a,<-QX]at h3;exact h3;simp only[aM,Rc,RC,Tc];omega
def vcApp1_ok (hl:l.length<=8)(i0:0<=i){a:Att}(b:l[i.toNat]? =some a)(k0:0<=k)(k1:k<=1)(h:MgK l e i k o r)(hq:fO l e i k=a::fO l e (i+1) k)(hb:iY l e i k=iY l e (i+1) k):vcApp1 i (l.map Att.row) (o.map Att.row) [e.row] k r:=by
 obtain⟨h1,h2,h3⟩:=h;have f:=(QL.1 b).1;have c:cS (l.map Att.row) i 0=a.n:=by simp only[cS,l6 b];rfl
 have d:cS (l.map Att.row) i 1=a.v:=by simp only[cS,l6 b];rfl
 have lo:ln (o.map Att.row)=(o.length:Int):=by simp[ln]
 have g:ln (l.map Att.row)=(l.length:Int):=by simp[ln]
 unfold vcApp1;rw[c,d,tI];refine ndi (by omega) (ndi (by omega) (nin (ndi (by omega) (nrn (ndi (by unfold I64;omega) (nin (nrn (ndi (xT (by omega) (by omega) k0 k1 ⟨by rw[<-hb];exact h1,by simp;omega,?_⟩) (ndt ?_)))))))));rw[hq]at h3;rw[QX];exact h3;simp only[aM,Rc,RC,Tc];omega
def vcApp2_ok (hl:l.length<=8)(i0:0<=i)(m:i<=l.length)(k0:0<=k)(k1:k<=1)(h:MgK l e i k o r)(hlt:i<l.length\/k<1):vcApp2 i (l.map Att.row) k (o.map Att.row) [e.row] r:=by
 have x:ln (l.map Att.row)=(l.length:Int):=by simp[ln]
 unfold vcApp2;refine⟨fun hi=>vcApp0_ok hl i0 m (by omega) h ?_ ?_,fun hi=>?_⟩;unfold fO;rw[Rh rfl,Re (by omega),List.drop_eq_nil_of_le (by omega)];unfold fD;simp;unfold iY;rw[Rh rfl,List.drop_eq_nil_of_le (by omega)];rfl;obtain⟨a,f⟩:=Sx.get_at (T:=l) i0 (by omega);have b:=GU f;have e0:=eC i0;refine⟨fun hk=>?_,fun hk=>?_⟩;have hk:k=1:=hk;refine vcApp1_ok hl i0 f k0 k1 h ?_ ?_;unfold fO;rw[Re (by omega),Re (by omega),b,e0];unfold iY;rw[Re (by omega),Re (by omega)]
 ·have hk:k=0:=by have hk:¬k=1:=hk;omega
  subst hk;have s:cS (l.map Att.row) i 0=a.n:=by simp only[cS,l6 f];rfl
  have t:cS [e.row] 0 0=e.n:=rfl;have u:cS [e.row] 0 2=e.v:=rfl;have w:cB [e.row] 0 1=e.d:=rfl;have lo:ln (o.map Att.row)=(o.length:Int):=by simp[ln]
  have g:fO l e i 0=fD (a::l.drop (i.toNat+1)) e:=by unfold fO;rw[Rh rfl,b]
  have j:iY l e i 0=bad1 (a::l.drop (i.toNat+1)) e:=by unfold iY;rw[Rh rfl,b]
  rw[s,t,u,w];refine ndi (by omega) (ndi (by omega) (ndi (by omega) (ndi (show(0:Int)<1 by omega) (ndi trivial fun c hc=>?_))));have hc:c=EL a.n e.n:=hc;have p:(0:Int)+1=1:=rfl;refine⟨fun c0=>?_,fun c0=>⟨fun q=>?_,fun q=>?_⟩⟩
  ·have hlt:lt a.n e.n=true:=by
    unfold EL at hc;split at hc
    ·assumption
    split at hc<;>omega
   refine vcApp1_ok hl i0 f k0 k1 h ?_ ?_;rw[g];unfold fD;rw[Rh hlt];unfold fO;rw[Rh rfl,e0];rw[j];unfold bad1;rw[Rh hlt];unfold iY;rw[Rh rfl,e0]
  ·have hn:¬lt a.n e.n=true/\ ¬a.n=e.n:=by unfold EL at hc;split at hc;omega;split at hc;omega;exact⟨by assumption,by assumption⟩
   refine vcApp0_ok hl i0 m rfl h ?_ ?_;rw[g];unfold fD;rw[Re hn.1,Re hn.2];unfold fO;rw[Re (by omega),b];rw[j];unfold bad1;rw[Re hn.1,Re hn.2]
  ·have hn:¬lt a.n e.n=true/\a.n=e.n:=by unfold EL at hc;split at hc;omega;split at hc;exact⟨by assumption,by assumption⟩;omega
   obtain⟨h1,h2,h3⟩:=h;have p1:fO l e i 0=edA e++fO l e (i+1) 1:=by rw[g];unfold fD;rw[Re hn.1,Rh hn.2];unfold fO;rw[Re (by omega),e0]
   have p2:iY l e i 0=iY l e (i+1) 1:=by rw[j];unfold bad1;rw[Re hn.1,Rh hn.2];unfold iY;rw[Re (by omega)]
   rw[p1]at h3;rw[p2]at h1;refine⟨fun h=>by omega,fun _=>ndi (by omega) (ndi (show(0:Int)<1 by omega) ⟨fun b=>⟨fun h=>by omega,fun _=>?_⟩,fun b=>?_⟩)⟩;rw[p];refine ndi (by unfold I64;omega) (ndi (by unfold I64;omega) (nin (nrn (ndi (xT (by omega) (by omega) (by omega) (by omega) ⟨h1,by omega,?_⟩) (ndt ?_)))));rw[edA,Rh b]at h3;exact h3;simp only[aM,Rc,RC,Tc];omega;rw[p,tI];refine ndi (by omega) (ndi (show(0:Int)<1 by omega) (ndi (by omega) (ndi (show(0:Int)<1 by omega) (nin (ndi (by omega) (nrn (ndi (by unfold I64;omega) (ndi (by unfold I64;omega) (nin (nrn (ndi (xT (by omega) (by omega) (by omega) (by omega) ⟨h1,by simp;omega,?_⟩) (ndt ?_))))))))))));rw[edA,Re b,<-QX]at h3;exact h3;simp only[aM,Rc,RC,Tc];omega
end
def Fc {l:List Att}(h:vAt l):z5 (.mk 1 [97] [] l [] []):=by obtain⟨h1,h2,h3⟩:=h;refine⟨⟨.inr ⟨rfl,(show C9 [97]=true from by decide),.inl rfl,rfl,h1,(show 0<=16 by omega),h2,h3,List.Pairwise.nil⟩,trivial⟩,by simp[a9.size,a9.sizes],by simp[a9.depth,a9.depths]⟩
def vcApp_ok :vcApp:=by
 rintro _ _ ⟨l,e,rfl,rfl,hl,he⟩;have p:ln (l.map Att.row)=(l.length:Int):=by simp[ln]
 have un:∀ {O:Sx.Rows} {r:Int},O=(apF l e).1.map Att.row->r=(apF l e).2->fP [.lst (l.map Att.row),.lst [e.row]] [.lst O,.int r]:=fun h1 h2 l' e' c he'=>by cases bG c;cases oJ he';exact⟨h1,h2⟩
 refine ndi ⟨.mk 1 [97] [] l [] [],rfl,rfl,rfl,rfl,rfl,rfl⟩ fun x hx=>⟨fun x0=>ndi ⟨e,rfl⟩ fun y hy=>⟨fun j=>ndi ?_ fun i k O r hI=>?_,fun j=>absurd ((hy e rfl).2 he) j⟩,fun x0=>absurd ((hx _ ⟨rfl,rfl,rfl,rfl,rfl,rfl⟩).1.2 (Fc hl)) x0⟩
 refine xT (o:=[]) (by omega) (by omega) (by omega) (by omega) ⟨.inl ⟨rfl,?_⟩,by simp,?_⟩;unfold iY;rw[Rh rfl];rfl;unfold fO;rw[Rh rfl];rfl
 ·obtain⟨i0,d,k0,k1,n⟩:=hI;obtain⟨h1,o,rfl,h2,h3⟩:=n l e rfl rfl;rw[Rc]at d;have k1:k<=1:=k1;have g:=hl.1;have lo:ln (o.map Att.row)=(o.length:Int):=by simp[ln]
  have f:MgK l e i k o r:=⟨h1,h2,h3⟩
  refine⟨fun hi=>vcApp2_ok g i0 d k0 k1 f (.inl (by omega)),fun hi=>⟨fun hk=>vcApp2_ok g i0 d k0 k1 f (.inr hk),fun hk=>?_⟩⟩;have hk:¬k<1:=hk;have b:o=fD l e:=by unfold fO at h3;rw[Re (by omega),List.drop_eq_nil_of_le (by omega),SM]at h3;exact h3
  have a:(r=0/\bad1 l e=false)\/(r=11/\bad1 l e=true):=by unfold iY at h1;rw[Re (by omega)]at h1;rcases h1 with h|h;exact .inl ⟨h.1,h.2.symm⟩;exact .inr h
  refine⟨fun r0=>⟨fun m=>ndt (un ?_ ?_),fun m=>ndi r0 (ndi (by omega) (nin (nin (nrn (nin (nrn (ndt (un ?_ ?_))))))))⟩,fun r0=>ndi r0 (ndt (un ?_ ?_))⟩;all_goals unfold apF
  rw[Re (by rcases a with h|h;simp[h.2];omega),<-b,Rh (by omega)];rfl;rw[Re (by rcases a with h|h;simp[h.2];omega),<-b,Rh (by omega)];rw[Re (by rcases a with h|h;simp[h.2];omega),<-b,Re (by omega)];rw[Re (by rcases a with h|h;simp[h.2];omega),<-b,Re (by omega)];rw[Rh (by rcases a with h|h;omega;exact h.2)];rfl;rw[Rh (by rcases a with h|h;omega;exact h.2)];rcases a with h|h;exact absurd h.1 r0;exact h.1
