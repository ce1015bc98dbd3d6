/- One edit of attributes: the conditions hold.
  Conditions: none. -/
import Derived.Test.YtoegfalhkackeaaGreatC5
set_option linter.all false
noncomputable section
namespace Go.D
open Go Go.Xe Go.Sx
def vcCmp_ok :vcCmp:=by intro a b _;refine⟨fun _=>⟨fun _=>⟨fun h=>ndt ?_,fun h=>ndi h ⟨fun e=>ndt ?_,fun e=>ndt ?_⟩⟩,fun h=>absurd rfl h⟩,fun h=>absurd rfl h⟩<;>show _=FC _ _<;>unfold FC lt;rw[TJ h];rw[TH h,TJ e];rw[TH h,TH e]
def pC {e e':Ed}(h: [e.row]=[e'.row]):e=e':=by obtain⟨n,d,v⟩:=e;obtain⟨n',a,v'⟩:=e';simp only[Ed.row,UD,Dat.str.injEq,Dat.bool.injEq,UG]at h;obtain⟨rfl,rfl,rfl⟩:=h;rfl
def Kc {n v:Str}:w9 (.mk 1 [97] [] [⟨n,v⟩] [] [])↔v5 n=true/\E8 v=true:=by
 have:v5 [97]=true:=by decide
 simp[w9,J3,AllAs,aG,a9.k,a9.x,a9.t,a9.y,a9.a,a9.c,a9.size,a9.sizes,a9.depth,a9.depths,fV,Asc,this]
def vcCed_ok :vcCed:=by
 rintro _ ⟨e,rfl⟩;have f:ln [e.row]=1:=rfl;refine ndi ⟨by omega,by simp,fun _ _ h=>by omega⟩ fun i hI=>?_;obtain⟨i0,c,hi⟩:=hI;have hi:=hi e rfl;have c:i<=1:=c;refine⟨fun h1=>?_,fun h1=>ndi (Uy _) fun j hj=>⟨fun h=>?_,fun h=>ndt fun e' he=>?_⟩⟩
 ·have z:i=0:=by omega
  subst z;have e1:cS [e.row] 0 0=e.n:=rfl;have e2:cS [e.row] 0 2=e.v:=rfl;have e3:cB [e.row] 0 1=e.d:=rfl;rw[e1,e2,e3];refine ndi (by omega) (ndi h1 (ndi ⟨.mk 1 [97] [] [⟨e.n,e.v⟩] [] [],rfl,rfl,rfl,rfl,rfl,rfl⟩ fun r hr=>?_));have hr:=(hr (.mk 1 [97] [] [⟨e.n,e.v⟩] [] []) ⟨rfl,rfl,rfl,rfl,rfl,rfl⟩).1;rw[Kc]at hr;have a:pP e=true->Nd (I64 (0+1)) (Nd (xR [.lst [e.row]] [.int (0+1)]) (Nd (Fy [.lst [e.row]] [.int (0+1)]<Fy [.lst [e.row]] [.int 0]) True)):=fun h=>
   ndi (by unfold I64;omega) (ndi ⟨by omega,by simp,fun e' he _=>by cases pC he;exact h⟩ (ndt (by show(((1:Nat):Int)-(0+1)).toNat<(((1:Nat):Int)-0).toNat;decide)))
  refine⟨fun r0=>⟨fun b=>⟨fun hv=>a ?_,fun hv=>ndt fun e' he=>?_⟩,fun b=>a ?_⟩,fun r0=>ndt fun e' he=>?_⟩;obtain⟨h2,h3⟩:=hr.1 r0;rw[hv]at h3;simp[pP,h2,h3,hv];cases pC he;simp[pP,b,hv];obtain⟨h2,h3⟩:=hr.1 r0;simp[pP,h2,h3,b];cases pC he;constructor;intro h;omega;intro h;simp[pP]at h;exact absurd (hr.2 h.1) r0
 have hj:1<=j:=hj;omega;cases pC he;exact⟨fun _=>hi (by omega),fun _=>rfl⟩
section
variable {l :List Att}{e:Ed}{i k r:Int}{o:List Att}
def MgK (l:List Att)(e:Ed)(i k:Int)(o:List Att)(r:Int):Prop:=((r=0/\jU l e i k=bad1 l e)\/(r=11/\bad1 l e=true))/\(o.length:Int)<=i+k/\o++gK l e i k=bY l e
def yI (i0:0<=i)(a:i<=l.length)(k0:0<=k)(k1:k<=1)(h:MgK l e i k o r):fO [.lst (l.map Att.row),.lst [e.row]] [.int i,.int k,.lst (o.map Att.row),.int r]:=
 ⟨i0,by rw[TG];exact a,k0,k1,fun l' e' h1 h2=>by cases bZ h1;cases pC h2;exact⟨h.1,o,rfl,h.2⟩⟩
def uC (o:List Att)(n v:Str):o.map Att.row++d8 2 1 [.str n,.str v]=(o++ [(⟨n,v⟩:Att)]).map Att.row:=by rw[Ui];rfl
def vcApp0_ok (hl:l.length<=8)(i0:0<=i)(b:i<=l.length)(hk:k=0)(h:MgK l e i k o r)(hq:gK l e i 0=edA e++gK l e i 1)(hb:jU l e i 0=e.d):vcApp0 k (l.map Att.row) (o.map Att.row) [e.row] i r:=by
 subst hk;obtain⟨h1,h2,h3⟩:=h;have e1:cS [e.row] 0 0=e.n:=rfl;have e2:cS [e.row] 0 2=e.v:=rfl;have e3:cB [e.row] 0 1=e.d:=rfl;have lo:ln (o.map Att.row)=(o.length:Int):=by simp[ln]
 have z1:(0:Int)+1=1:=rfl;rw[hb]at h1;unfold vcApp0;rw[e1,e2,e3,uC o e.n e.v,z1];refine⟨fun h=>by omega,fun _=>ndi (by omega) (ndi (show(0:Int)<1 by omega) ⟨fun a=>?_,fun a=>?_⟩)⟩;refine ndi (by unfold I64;omega) (nin (nrn (ndi (yI i0 b (by omega) (by omega) ⟨.inr ⟨rfl,?_⟩,by omega,?_⟩) (ndt ?_))));rcases h1 with h1|h1;rw[<-h1.2];exact a;exact h1.2;rw[hq,edA,TJ a]at h3;exact h3;simp only[aW,TG,Ue,Vh];omega;refine ndi (by omega) (ndi (show(0:Int)<1 by omega) (ndi (by omega) (ndi (show(0:Int)<1 by omega) (nin (ndi (by omega) (nrn (ndi (by unfold I64;omega) (nin (nrn (ndi (yI i0 b (by omega) (by omega) ⟨?_,by simp;omega,?_⟩) (ndt ?_)))))))))));rcases h1 with h1|h1;exact .inl ⟨h1.1,by rw[<-h1.2];unfold jU;rw[TH (by omega)];simpa using a⟩;exact .inr h1;rw[hq,edA,TH a,<-Tz]at h3;exact h3;simp only[aW,TG,Ue,Vh];omega
def vcApp1_ok (hl:l.length<=8)(i0:0<=i){a:Att}(b:l[i.toNat]? =some a)(k0:0<=k)(k1:k<=1)(h:MgK l e i k o r)(hq:gK l e i k=a::gK l e (i+1) k)(hb:jU l e i k=jU l e (i+1) k):vcApp1 i (l.map Att.row) (o.map Att.row) [e.row] k r:=by
 obtain⟨h1,h2,h3⟩:=h;have c:=(Tn.1 b).1;have e1:cS (l.map Att.row) i 0=a.n:=by simp only[cS,i9 b];rfl
 have e2:cS (l.map Att.row) i 1=a.v:=by simp only[cS,i9 b];rfl
 have lo:ln (o.map Att.row)=(o.length:Int):=by simp[ln]
 have d:ln (l.map Att.row)=(l.length:Int):=by simp[ln]
 unfold vcApp1;rw[e1,e2,uC];refine ndi (by omega) (ndi (by omega) (nin (ndi (by omega) (nrn (ndi (by unfold I64;omega) (nin (nrn (ndi (yI (by omega) (by omega) k0 k1 ⟨by rw[<-hb];exact h1,by simp;omega,?_⟩) (ndt ?_)))))))));rw[hq]at h3;rw[Tz];exact h3;simp only[aW,TG,Ue,Vh];omega
def vcApp2_ok (hl:l.length<=8)(i0:0<=i)(m:i<=l.length)(k0:0<=k)(k1:k<=1)(h:MgK l e i k o r)(hlt:i<l.length\/k<1):vcApp2 i (l.map Att.row) k (o.map Att.row) [e.row] r:=by
 have q:ln (l.map Att.row)=(l.length:Int):=by simp[ln]
 unfold vcApp2;refine⟨fun hi=>vcApp0_ok hl i0 m (by omega) h ?_ ?_,fun hi=>?_⟩;unfold gK;rw[TJ rfl,TH (by omega),List.drop_eq_nil_of_le (by omega)];unfold bY;simp;unfold jU;rw[TJ rfl,List.drop_eq_nil_of_le (by omega)];rfl;obtain⟨a,f⟩:=Sx.get_at (T:=l) i0 (by omega);have b:=HJ f;have e0:=fA i0;refine⟨fun hk=>?_,fun hk=>?_⟩;have hk:k=1:=hk;refine vcApp1_ok hl i0 f k0 k1 h ?_ ?_;unfold gK;rw[TH (by omega),TH (by omega),b,e0];unfold jU;rw[TH (by omega),TH (by omega)]
 ·have hk:k=0:=by have hk:¬k=1:=hk;omega
  subst hk;have e1:cS (l.map Att.row) i 0=a.n:=by simp only[cS,i9 f];rfl
  have e2:cS [e.row] 0 0=e.n:=rfl;have e3:cS [e.row] 0 2=e.v:=rfl;have e4:cB [e.row] 0 1=e.d:=rfl;have lo:ln (o.map Att.row)=(o.length:Int):=by simp[ln]
  have g:gK l e i 0=bY (a::l.drop (i.toNat+1)) e:=by unfold gK;rw[TJ rfl,b]
  have j:jU l e i 0=bad1 (a::l.drop (i.toNat+1)) e:=by unfold jU;rw[TJ rfl,b]
  rw[e1,e2,e3,e4];refine ndi (by omega) (ndi (by omega) (ndi (by omega) (ndi (show(0:Int)<1 by omega) (ndi trivial fun c hc=>?_))));have hc:c=FC a.n e.n:=hc;have z1:(0:Int)+1=1:=rfl;refine⟨fun c0=>?_,fun c0=>⟨fun p=>?_,fun p=>?_⟩⟩
  ·have hlt:lt a.n e.n=true:=by
    unfold FC at hc;split at hc
    ·assumption
    split at hc<;>omega
   refine vcApp1_ok hl i0 f k0 k1 h ?_ ?_;rw[g];unfold bY;rw[TJ hlt];unfold gK;rw[TJ rfl,e0];rw[j];unfold bad1;rw[TJ hlt];unfold jU;rw[TJ rfl,e0]
  ·have hn:¬lt a.n e.n=true/\ ¬a.n=e.n:=by unfold FC at hc;split at hc;omega;split at hc;omega;exact⟨by assumption,by assumption⟩
   refine vcApp0_ok hl i0 m rfl h ?_ ?_;rw[g];unfold bY;rw[TH hn.1,TH hn.2];unfold gK;rw[TH (by omega),b];rw[j];unfold bad1;rw[TH hn.1,TH hn.2]
  ·have hn:¬lt a.n e.n=true/\a.n=e.n:=by unfold FC at hc;split at hc;omega;split at hc;exact⟨by assumption,by assumption⟩;omega
   obtain⟨h1,h2,h3⟩:=h;have p1:gK l e i 0=edA e++gK l e (i+1) 1:=by rw[g];unfold bY;rw[TH hn.1,TJ hn.2];unfold gK;rw[TH (by omega),e0]
   have p2:jU l e i 0=jU l e (i+1) 1:=by rw[j];unfold bad1;rw[TH hn.1,TJ hn.2];unfold jU;rw[TH (by omega)]
   rw[p1]at h3;rw[p2]at h1;refine⟨fun h=>by omega,fun _=>ndi (by omega) (ndi (show(0:Int)<1 by omega) ⟨fun b=>⟨fun h=>by omega,fun _=>?_⟩,fun b=>?_⟩)⟩;rw[z1];refine ndi (by unfold I64;omega) (ndi (by unfold I64;omega) (nin (nrn (ndi (yI (by omega) (by omega) (by omega) (by omega) ⟨h1,by omega,?_⟩) (ndt ?_)))));rw[edA,TJ b]at h3;exact h3;simp only[aW,TG,Ue,Vh];omega;rw[z1,uC];refine ndi (by omega) (ndi (show(0:Int)<1 by omega) (ndi (by omega) (ndi (show(0:Int)<1 by omega) (nin (ndi (by omega) (nrn (ndi (by unfold I64;omega) (ndi (by unfold I64;omega) (nin (nrn (ndi (yI (by omega) (by omega) (by omega) (by omega) ⟨h1,by simp;omega,?_⟩) (ndt ?_))))))))))));rw[edA,TH b,<-Tz]at h3;exact h3;simp only[aW,TG,Ue,Vh];omega
end
def FV {l:List Att}(h:vAt l):w9 (.mk 1 [97] [] l [] []):=by obtain⟨h1,h2,h3⟩:=h;refine⟨⟨.inr ⟨rfl,(show v5 [97]=true from by decide),.inl rfl,rfl,h1,(show 0<=16 by omega),h2,h3,List.Pairwise.nil⟩,trivial⟩,by simp[a9.size,a9.sizes],by simp[a9.depth,a9.depths]⟩
def vcApp_ok :vcApp:=by
 rintro _ _ ⟨l,e,rfl,rfl,hl,he⟩;have p:ln (l.map Att.row)=(l.length:Int):=by simp[ln]
 have un:∀ {O:Sx.Rows} {r:Int},O=(apF l e).1.map Att.row->r=(apF l e).2->gL [.lst (l.map Att.row),.lst [e.row]] [.lst O,.int r]:=fun h1 h2 l' e' c he'=>by cases bZ c;cases pC he';exact⟨h1,h2⟩
 refine ndi ⟨.mk 1 [97] [] l [] [],rfl,rfl,rfl,rfl,rfl,rfl⟩ fun x hx=>⟨fun x0=>ndi ⟨e,rfl⟩ fun y hy=>⟨fun j=>ndi ?_ fun i k O r hI=>?_,fun j=>absurd ((hy e rfl).2 he) j⟩,fun x0=>absurd ((hx _ ⟨rfl,rfl,rfl,rfl,rfl,rfl⟩).1.2 (FV hl)) x0⟩
 refine yI (o:=[]) (by omega) (by omega) (by omega) (by omega) ⟨.inl ⟨rfl,?_⟩,by simp,?_⟩;unfold jU;rw[TJ rfl];rfl;unfold gK;rw[TJ rfl];rfl
 ·obtain⟨i0,d,k0,k1,n⟩:=hI;obtain⟨h1,o,rfl,h2,h3⟩:=n l e rfl rfl;rw[TG]at d;have k1:k<=1:=k1;have g:=hl.1;have lo:ln (o.map Att.row)=(o.length:Int):=by simp[ln]
  have f:MgK l e i k o r:=⟨h1,h2,h3⟩
  refine⟨fun hi=>vcApp2_ok g i0 d k0 k1 f (.inl (by omega)),fun hi=>⟨fun hk=>vcApp2_ok g i0 d k0 k1 f (.inr hk),fun hk=>?_⟩⟩;have hk:¬k<1:=hk;have b:o=bY l e:=by unfold gK at h3;rw[TH (by omega),List.drop_eq_nil_of_le (by omega),UV]at h3;exact h3
  have a:(r=0/\bad1 l e=false)\/(r=11/\bad1 l e=true):=by unfold jU at h1;rw[TH (by omega)]at h1;rcases h1 with h|h;exact .inl ⟨h.1,h.2.symm⟩;exact .inr h
  refine⟨fun r0=>⟨fun m=>ndt (un ?_ ?_),fun m=>ndi r0 (ndi (by omega) (nin (nin (nrn (nin (nrn (ndt (un ?_ ?_))))))))⟩,fun r0=>ndi r0 (ndt (un ?_ ?_))⟩;all_goals unfold apF
  rw[TH (by rcases a with h|h;simp[h.2];omega),<-b,TJ (by omega)];rfl;rw[TH (by rcases a with h|h;simp[h.2];omega),<-b,TJ (by omega)];rw[TH (by rcases a with h|h;simp[h.2];omega),<-b,TH (by omega)];rw[TH (by rcases a with h|h;simp[h.2];omega),<-b,TH (by omega)];rw[TJ (by rcases a with h|h;omega;exact h.2)];rfl;rw[TJ (by rcases a with h|h;omega;exact h.2)];rcases a with h|h;exact absurd h.1 r0;exact h.1
