/- One edit of attributes: the conditions hold.
  Conditions: none. -/
import Derived.Test.YtgmiikiinbaapaaGreatC5
set_option linter.all false
noncomputable section
namespace Go.D
open Go Go.Xe Go.Sx
def vcCmp_ok :vcCmp:=by
 intro a b _;refine⟨fun _=>⟨fun _=>⟨fun h=>ndt ?_,fun h=>ndi h ⟨fun e=>ndt ?_,fun e=>ndt ?_⟩⟩,fun h=>absurd rfl h⟩,fun h=>absurd rfl h⟩<;>show _=Eh _ _<;>unfold Eh lt
 ·rw[OY h]
 ·rw[OW h,OY e]
 ·rw[OW h,OW e]
def iM {e e':Ed}(h: [e.row]=[e'.row]):e=e':=by obtain⟨n,d,v⟩:=e;obtain⟨n',a,b⟩:=e';simp only[Ed.row,PZ,Dat.str.injEq,Dat.bool.injEq,Qc]at h;obtain⟨rfl,rfl,rfl⟩:=h;rfl
def HP {n v:Str}:V5 (.mk 1 [97] [] [⟨n,v⟩] [] [])↔B0 n=true/\H7 v=true:=by
 have:B0 [97]=true:=by decide
 simp[V5,jT,AllAs,V3,c9.k,c9.x,c9.t,c9.y,c9.a,c9.c,c9.size,c9.sizes,c9.depth,c9.depths,iG,Asc,this]
def vcCed_ok :vcCed:=by
 rintro _ ⟨e,rfl⟩;have p:ln [e.row]=1:=rfl;refine ndi ⟨by omega,by simp,fun _ _ h=>by omega⟩ fun i hI=>?_;obtain⟨i0,c,hi⟩:=hI;have hi:=hi e rfl;have c:i<=1:=c;refine⟨fun h1=>?_,fun h1=>ndi (PQ _) fun j hj=>⟨fun h=>?_,fun h=>ndt fun e' he=>?_⟩⟩
 ·have z:i=0:=by omega
  subst z;have f:cS [e.row] 0 0=e.n:=rfl;have g:cS [e.row] 0 2=e.v:=rfl;have m:cB [e.row] 0 1=e.d:=rfl;rw[f,g,m];refine ndi (by omega) (ndi h1 (ndi ⟨.mk 1 [97] [] [⟨e.n,e.v⟩] [] [],rfl,rfl,rfl,rfl,rfl,rfl⟩ fun r hr=>?_));have hr:=(hr (.mk 1 [97] [] [⟨e.n,e.v⟩] [] []) ⟨rfl,rfl,rfl,rfl,rfl,rfl⟩).1;rw[HP]at hr;have a:Z6 e=true->Nd (I64 (0+1)) (Nd (wC [.lst [e.row]] [.int (0+1)]) (Nd (Ef [.lst [e.row]] [.int (0+1)]<Ef [.lst [e.row]] [.int 0]) True)):=fun h=>
   ndi (by unfold I64;omega) (ndi ⟨by omega,by simp,fun e' he _=>by cases iM he;exact h⟩ (ndt (by show(((1:Nat):Int)-(0+1)).toNat<(((1:Nat):Int)-0).toNat;decide)))
  refine⟨fun r0=>⟨fun b=>⟨fun hv=>a ?_,fun hv=>ndt fun e' he=>?_⟩,fun b=>a ?_⟩,fun r0=>ndt fun e' he=>?_⟩
  ·obtain⟨h2,h3⟩:=hr.1 r0;rw[hv]at h3;simp[Z6,h2,h3,hv]
  ·cases iM he;simp[Z6,b,hv]
  ·obtain⟨h2,h3⟩:=hr.1 r0;simp[Z6,h2,h3,b]
  ·cases iM he;constructor
   ·intro h;omega
   ·intro h;simp[Z6]at h;exact absurd (hr.2 h.1) r0
 ·have hj:1<=j:=hj;omega
 ·cases iM he;exact⟨fun _=>hi (by omega),fun _=>rfl⟩
section
variable {l :List Att}{e:Ed}{i k r:Int}{o:List Att}
def MgK (l:List Att)(e:Ed)(i k:Int)(o:List Att)(r:Int):Prop:=((r=0/\gQ l e i k=bad1 l e)\/(r=11/\bad1 l e=true))/\(o.length:Int)<=i+k/\o++dU l e i k=L5 l e
def wT (i0:0<=i)(a:i<=l.length)(k0:0<=k)(k1:k<=1)(h:MgK l e i k o r):dF [.lst (l.map Att.row),.lst [e.row]] [.int i,.int k,.lst (o.map Att.row),.int r]:=
 ⟨i0,by rw[OV];exact a,k0,k1,fun l' e' h1 h2=>by cases Q6 h1;cases iM h2;exact⟨h.1,o,rfl,h.2⟩⟩
def sE (o:List Att)(n v:Str):o.map Att.row++b8 2 1 [.str n,.str v]=(o++ [(⟨n,v⟩:Att)]).map Att.row:=by rw[PA];rfl
def vcApp0_ok (hl:l.length<=8)(i0:0<=i)(b:i<=l.length)(hk:k=0)(h:MgK l e i k o r)(hq:dU l e i 0=edA e++dU l e i 1)(hb:gQ l e i 0=e.d):vcApp0 k (l.map Att.row) (o.map Att.row) [e.row] i r:=by
 subst hk;obtain⟨h1,h2,h3⟩:=h;have c:cS [e.row] 0 0=e.n:=rfl;have f:cS [e.row] 0 2=e.v:=rfl;have g:cB [e.row] 0 1=e.d:=rfl;have lo:ln (o.map Att.row)=(o.length:Int):=by simp[ln]
 have j:(0:Int)+1=1:=rfl;rw[hb]at h1;unfold vcApp0;rw[c,f,g,sE o e.n e.v,j];refine⟨fun h=>by omega,fun _=>ndi (by omega) (ndi (show(0:Int)<1 by omega) ⟨fun a=>?_,fun a=>?_⟩)⟩
 ·refine ndi (by unfold I64;omega) (nin (nrn (ndi (wT i0 b (by omega) (by omega) ⟨.inr ⟨rfl,?_⟩,by omega,?_⟩) (ndt ?_))))
  ·rcases h1 with h1|h1
   ·rw[<-h1.2];exact a
   ·exact h1.2
  ·rw[hq,edA,OY a]at h3;exact h3
  ·simp only[X1,OV,Pw,QD];omega
 ·refine ndi (by omega) (ndi (show(0:Int)<1 by omega) (ndi (by omega) (ndi (show(0:Int)<1 by omega) (nin (ndi (by omega) (nrn (ndi (by unfold I64;omega) (nin (nrn (ndi (wT i0 b (by omega) (by omega) ⟨?_,by simp;omega,?_⟩) (ndt ?_)))))))))))
  ·rcases h1 with h1|h1
   ·exact .inl ⟨h1.1,by rw[<-h1.2];unfold gQ;rw[OW (by omega)];simpa using a⟩
   ·exact .inr h1
  ·rw[hq,edA,OW a,<-OQ]at h3;exact h3
  ·simp only[X1,OV,Pw,QD];omega
def vcApp1_ok (hl:l.length<=8)(i0:0<=i){a:Att}(b:l[i.toNat]? =some a)(k0:0<=k)(k1:k<=1)(h:MgK l e i k o r)(hq:dU l e i k=a::dU l e (i+1) k)(hb:gQ l e i k=gQ l e (i+1) k):vcApp1 i (l.map Att.row) (o.map Att.row) [e.row] k r:=by
 obtain⟨h1,h2,h3⟩:=h;have f:=(OG.1 b).1;have c:cS (l.map Att.row) i 0=a.n:=by simp only[cS,i4 b];rfl
 have d:cS (l.map Att.row) i 1=a.v:=by simp only[cS,i4 b];rfl
 have lo:ln (o.map Att.row)=(o.length:Int):=by simp[ln]
 have g:ln (l.map Att.row)=(l.length:Int):=by simp[ln]
 unfold vcApp1;rw[c,d,sE];refine ndi (by omega) (ndi (by omega) (nin (ndi (by omega) (nrn (ndi (by unfold I64;omega) (nin (nrn (ndi (wT (by omega) (by omega) k0 k1 ⟨by rw[<-hb];exact h1,by simp;omega,?_⟩) (ndt ?_)))))))))
 ·rw[hq]at h3;rw[OQ];exact h3
 ·simp only[X1,OV,Pw,QD];omega
def vcApp2_ok (hl:l.length<=8)(i0:0<=i)(m:i<=l.length)(k0:0<=k)(k1:k<=1)(h:MgK l e i k o r)(hlt:i<l.length\/k<1):vcApp2 i (l.map Att.row) k (o.map Att.row) [e.row] r:=by
 have x:ln (l.map Att.row)=(l.length:Int):=by simp[ln]
 unfold vcApp2;refine⟨fun hi=>vcApp0_ok hl i0 m (by omega) h ?_ ?_,fun hi=>?_⟩
 ·unfold dU;rw[OY rfl,OW (by omega),List.drop_eq_nil_of_le (by omega)];unfold L5;simp
 ·unfold gQ;rw[OY rfl,List.drop_eq_nil_of_le (by omega)];rfl
 obtain⟨a,f⟩:=Sx.get_at (T:=l) i0 (by omega);have b:=Gt f;have e0:=cP i0;refine⟨fun hk=>?_,fun hk=>?_⟩
 ·have hk:k=1:=hk;refine vcApp1_ok hl i0 f k0 k1 h ?_ ?_
  ·unfold dU;rw[OW (by omega),OW (by omega),b,e0]
  ·unfold gQ;rw[OW (by omega),OW (by omega)]
 ·have hk:k=0:=by have hk:¬k=1:=hk;omega
  subst hk;have s:cS (l.map Att.row) i 0=a.n:=by simp only[cS,i4 f];rfl
  have t:cS [e.row] 0 0=e.n:=rfl;have u:cS [e.row] 0 2=e.v:=rfl;have w:cB [e.row] 0 1=e.d:=rfl;have lo:ln (o.map Att.row)=(o.length:Int):=by simp[ln]
  have g:dU l e i 0=L5 (a::l.drop (i.toNat+1)) e:=by unfold dU;rw[OY rfl,b]
  have j:gQ l e i 0=bad1 (a::l.drop (i.toNat+1)) e:=by unfold gQ;rw[OY rfl,b]
  rw[s,t,u,w];refine ndi (by omega) (ndi (by omega) (ndi (by omega) (ndi (show(0:Int)<1 by omega) (ndi trivial fun c hc=>?_))));have hc:c=Eh a.n e.n:=hc;have p:(0:Int)+1=1:=rfl;refine⟨fun c0=>?_,fun c0=>⟨fun q=>?_,fun q=>?_⟩⟩
  ·have hlt:lt a.n e.n=true:=by
    unfold Eh at hc;split at hc
    ·assumption
    ·split at hc<;>omega
   refine vcApp1_ok hl i0 f k0 k1 h ?_ ?_
   ·rw[g];unfold L5;rw[OY hlt];unfold dU;rw[OY rfl,e0]
   ·rw[j];unfold bad1;rw[OY hlt];unfold gQ;rw[OY rfl,e0]
  ·have hn:¬lt a.n e.n=true/\ ¬a.n=e.n:=by
    unfold Eh at hc;split at hc
    ·omega
    ·split at hc
     ·omega
     ·exact⟨by assumption,by assumption⟩
   refine vcApp0_ok hl i0 m rfl h ?_ ?_
   ·rw[g];unfold L5;rw[OW hn.1,OW hn.2];unfold dU;rw[OW (by omega),b]
   ·rw[j];unfold bad1;rw[OW hn.1,OW hn.2]
  ·have hn:¬lt a.n e.n=true/\a.n=e.n:=by
    unfold Eh at hc;split at hc
    ·omega
    ·split at hc
     ·exact⟨by assumption,by assumption⟩
     ·omega
   obtain⟨h1,h2,h3⟩:=h;have p1:dU l e i 0=edA e++dU l e (i+1) 1:=by rw[g];unfold L5;rw[OW hn.1,OY hn.2];unfold dU;rw[OW (by omega),e0]
   have p2:gQ l e i 0=gQ l e (i+1) 1:=by rw[j];unfold bad1;rw[OW hn.1,OY hn.2];unfold gQ;rw[OW (by omega)]
   rw[p1]at h3;rw[p2]at h1;refine⟨fun h=>by omega,fun _=>ndi (by omega) (ndi (show(0:Int)<1 by omega) ⟨fun b=>⟨fun h=>by omega,fun _=>?_⟩,fun b=>?_⟩)⟩
   ·rw[p];refine ndi (by unfold I64;omega) (ndi (by unfold I64;omega) (nin (nrn (ndi (wT (by omega) (by omega) (by omega) (by omega) ⟨h1,by omega,?_⟩) (ndt ?_)))))
    ·rw[edA,OY b]at h3;exact h3
    ·simp only[X1,OV,Pw,QD];omega
   ·rw[p,sE];refine ndi (by omega) (ndi (show(0:Int)<1 by omega) (ndi (by omega) (ndi (show(0:Int)<1 by omega) (nin (ndi (by omega) (nrn (ndi (by unfold I64;omega) (ndi (by unfold I64;omega) (nin (nrn (ndi (wT (by omega) (by omega) (by omega) (by omega) ⟨h1,by simp;omega,?_⟩) (ndt ?_))))))))))))
    ·rw[edA,OW b,<-OQ]at h3;exact h3
    ·simp only[X1,OV,Pw,QD];omega
end
def Eu {l:List Att}(h:vAt l):V5 (.mk 1 [97] [] l [] []):=by obtain⟨h1,h2,h3⟩:=h;refine⟨⟨.inr ⟨rfl,(show B0 [97]=true from by decide),.inl rfl,rfl,h1,(show 0<=16 by omega),h2,h3,List.Pairwise.nil⟩,trivial⟩,by simp[c9.size,c9.sizes],by simp[c9.depth,c9.depths]⟩
def vcApp_ok :vcApp:=by
 rintro _ _ ⟨l,e,rfl,rfl,hl,he⟩;have q:ln (l.map Att.row)=(l.length:Int):=by simp[ln]
 have un:∀ {O:Sx.Rows} {r:Int},O=(apF l e).1.map Att.row->r=(apF l e).2->bJ [.lst (l.map Att.row),.lst [e.row]] [.lst O,.int r]:=fun h1 h2 l' e' d c=>by cases Q6 d;cases iM c;exact⟨h1,h2⟩
 refine ndi ⟨.mk 1 [97] [] l [] [],rfl,rfl,rfl,rfl,rfl,rfl⟩ fun x hx=>⟨fun x0=>ndi ⟨e,rfl⟩ fun y hy=>⟨fun m=>ndi ?_ fun i k O r hI=>?_,fun m=>absurd ((hy e rfl).2 he) m⟩,fun x0=>absurd ((hx _ ⟨rfl,rfl,rfl,rfl,rfl,rfl⟩).1.2 (Eu hl)) x0⟩
 ·refine wT (o:=[]) (by omega) (by omega) (by omega) (by omega) ⟨.inl ⟨rfl,?_⟩,by simp,?_⟩
  ·unfold gQ;rw[OY rfl];rfl
  ·unfold dU;rw[OY rfl];rfl
 ·obtain⟨i0,f,k0,k1,p⟩:=hI;obtain⟨h1,o,rfl,h2,h3⟩:=p l e rfl rfl;rw[OV]at f;have k1:k<=1:=k1;have j:=hl.1;have lo:ln (o.map Att.row)=(o.length:Int):=by simp[ln]
  have g:MgK l e i k o r:=⟨h1,h2,h3⟩
  refine⟨fun hi=>vcApp2_ok j i0 f k0 k1 g (.inl (by omega)),fun hi=>⟨fun hk=>vcApp2_ok j i0 f k0 k1 g (.inr hk),fun hk=>?_⟩⟩;have hk:¬k<1:=hk;have b:o=L5 l e:=by unfold dU at h3;rw[OW (by omega),List.drop_eq_nil_of_le (by omega),Qr]at h3;exact h3
  have a:(r=0/\bad1 l e=false)\/(r=11/\bad1 l e=true):=by
   unfold gQ at h1;rw[OW (by omega)]at h1;rcases h1 with h|h
   ·exact .inl ⟨h.1,h.2.symm⟩
   ·exact .inr h
  refine⟨fun r0=>⟨fun n=>ndt (un ?_ ?_),fun n=>ndi r0 (ndi (by omega) (nin (nin (nrn (nin (nrn (ndt (un ?_ ?_))))))))⟩,fun r0=>ndi r0 (ndt (un ?_ ?_))⟩;all_goals unfold apF
  ·rw[OW (by rcases a with h|h;simp[h.2];omega),<-b,OY (by omega)];rfl
  ·rw[OW (by rcases a with h|h;simp[h.2];omega),<-b,OY (by omega)]
  ·rw[OW (by rcases a with h|h;simp[h.2];omega),<-b,OW (by omega)]
  ·rw[OW (by rcases a with h|h;simp[h.2];omega),<-b,OW (by omega)]
  ·rw[OY (by rcases a with h|h;omega;exact h.2)];rfl
  ·rw[OY (by rcases a with h|h;omega;exact h.2)];rcases a with h|h
   ·exact absurd h.1 r0
   ·exact h.1
end Go.D
