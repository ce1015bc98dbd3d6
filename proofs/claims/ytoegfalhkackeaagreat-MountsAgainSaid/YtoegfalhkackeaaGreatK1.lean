/- The DOM: what is always so stays so: a node's own fields, counters, children.
  Conditions: none. -/
import Derived.Test.YtoegfalhkackeaaGreatI4
set_option linter.all false
noncomputable section
namespace Go.D
open Go Go.Xe Go.Sx
section
variable {D D':DM}{K a b c p k:Nat}{s sp sc:Sl}
theorem CU {p q:Nat->Bool}:∀ {l:Ah} {x:Nat},(∀y,p y=true->q y=true)->x∈l->q x=true->p x=false->l.countP p<l.countP q
 |y::l,x,h,hx,h1,h2=>by have mono:∀l:Ah,l.countP p<=l.countP q:=fun l=>List.countP_mono_left fun y _=>h y;rw[List.countP_cons,List.countP_cons];rcases TZ.1 hx with rfl|hx;have:=mono l;rw[h1,h2];simp;omega;have:=CU h hx h1 h2;have:p y=true->q y=true:=h y;cases e:p y<;>cases e':q y<;>simp_all<;>omega
def Bw (hl:D.L.length<=K){r:Nat->Nat}(hr:∀(i:Nat) s,D.L[i]? =some s->s.used=true-> ∀j∈s.n.ch,r i<r j):∃r:Nat->Nat,(∀i,r i<=K)/\ ∀(i:Nat) s,D.L[i]? =some s->s.used=true-> ∀j∈s.n.ch,r i<r j:=by
 refine⟨fun i=>(List.range D.L.length).countP fun j=>decide (r j<r i),fun i=>?_,fun i s hs d j hj=>?_⟩;have:=List.countP_le_length (p:=fun j=>decide (r j<r i)) (l:=List.range D.L.length);rw[List.length_range]at this;show(List.range D.L.length).countP (fun j=>decide (r j<r i))<=K;omega
 ·have h:=hr i s hs d j hj;refine CU (x:=i) (fun y hy=>?_) (List.mem_range.2 (Tn.1 hs).1) (by simpa using h) (by simp);have:r y<r i:=by simpa using hy
  simp;omega
structure Sim (D D':DM):Prop where
 len:D'.L.length=D.L.length
 old:∀(j:Nat) s',D'.L[j]? =some s'-> ∃s,D.L[j]? =some s/\s'.g=s.g/\s'.used=s.used/\s'.n.par=s.n.par/\s'.n.ch=s.n.ch/\s'.n.kind=s.n.kind/\(s.used=true->vAt s.n.atts->vAt s'.n.atts/\(s.n.kind=2->s.n.atts=[]->s'.n.atts=[]))
 new:∀(j:Nat) s,D.L[j]? =some s-> ∃s',D'.L[j]? =some s'/\s'.g=s.g/\s'.used=s.used/\s'.n.par=s.n.par/\s'.n.ch=s.n.ch
 free:D'.free=D.free
def Cnt (D:DM)(K:Nat):Prop:=∃a b c d e f h:Int,D.C=[(D.L.countP (·.used):Int),a,b,c,d,e,f,h]/\a=D.L.countP (·.used)+b/\0<=b/\(∀x∈ [a,b,c,d,e,f,h],0<=x/\x<=K)
def Sim.wf (w:WF D K)(h:Sim D D')(u:K+1<=1000)(hc:Cnt D' (K+1)):WF D' (K+1):=by have lim:=w.lim;refine⟨⟨by rw[h.len];omega,u⟩,fun s' d=>?_,fun i s' d f=>?_,fun i s' d f=>?_,?_,fun i s' d f=>?_,hc,fun i s' d f=>?_,?_⟩;obtain⟨j,hj⟩:=Vk d;obtain⟨s,h1,h2,_⟩:=h.old j s' hj;have:=w.gen s (Tv h1);omega;obtain⟨s,h1,h2,h3,h4,h5,g,_⟩:=h.old i s' d;rw[h3]at f;rw[h4];rcases w.par i s h1 f with e| ⟨p,sp,e,k1,k2,k3⟩;exact .inl e;obtain⟨q,m,t,n,A,y⟩:=h.new p sp k1;exact .inr ⟨p,q,e,m,by rw[n];exact k2,by rw[y];exact k3⟩;obtain⟨s,h1,h2,h3,h4,h5,g,_⟩:=h.old i s' d;rw[h3]at f;rw[h5];obtain⟨k1,k2⟩:=w.ch i s h1 f;refine⟨k1,fun j hj=>?_⟩;obtain⟨sj,m,t,n⟩:=k2 j hj;obtain⟨o,p1,p2,v,x,z⟩:=h.new j sj m;exact⟨o,p1,by rw[v];exact t,by rw[x];exact n⟩;obtain⟨r,h1,h2⟩:=w.rank;refine Bw (by rw[h.len];omega) (r:=r) fun i s' d f j hj=>?_;obtain⟨s,h1,_,h3,h4,h5,g,_⟩:=h.old i s' d;rw[h3]at f;rw[h5]at hj;exact h2 i s h1 f j hj;obtain⟨s,h1,_,h3,h4,h5,g,l⟩:=h.old i s' d;rw[h3]at f;exact(l f (w.atts i s h1 f)).1;obtain⟨s,h1,_,h3,h4,h5,g,l⟩:=h.old i s' d;rw[h3]at f;obtain⟨k1,k2⟩:=w.kind i s h1 f;rw[g,h5];exact⟨k1,fun e=>⟨(k2 e).1,(l f (w.atts i s h1 f)).2 e (k2 e).2⟩⟩;rw[h.free];refine⟨w.free.1,fun i hi=>?_⟩;obtain⟨s,h1,h2⟩:=w.free.2 i hi;obtain⟨s',k1,_,k2,_⟩:=h.new i s h1;exact⟨s',k1,by rw[k2];exact h2⟩
def WF.cnt_of (w:WF D K)(hk:3<=k/\k<=7)(hL:D'.L.countP (·.used)=D.L.countP (·.used))(g:D'.C=D.C.modify k (· +1)):Cnt D' (K+1):=by
 obtain⟨a,b,c,d,e,f,h,h1,h2,h3,h4⟩:=w.cnt;unfold Cnt;rw[g,hL,h1];simp only[List.forall_mem_cons]at h4;obtain⟨i,j,l,m,n,o,q,_⟩:=h4;have:k=3\/k=4\/k=5\/k=6\/k=7:=by omega
 rcases this with rfl|rfl|rfl|rfl|rfl;exact⟨a,b,c+1,d,e,f,h,rfl,h2,h3,by simp only[List.forall_mem_cons];refine⟨?_,?_,?_,?_,?_,?_,?_,fun _ h=>by simp at h⟩<;>omega⟩;exact⟨a,b,c,d+1,e,f,h,rfl,h2,h3,by simp only[List.forall_mem_cons];refine⟨?_,?_,?_,?_,?_,?_,?_,fun _ h=>by simp at h⟩<;>omega⟩;exact⟨a,b,c,d,e+1,f,h,rfl,h2,h3,by simp only[List.forall_mem_cons];refine⟨?_,?_,?_,?_,?_,?_,?_,fun _ h=>by simp at h⟩<;>omega⟩;exact⟨a,b,c,d,e,f+1,h,rfl,h2,h3,by simp only[List.forall_mem_cons];refine⟨?_,?_,?_,?_,?_,?_,?_,fun _ h=>by simp at h⟩<;>omega⟩;exact⟨a,b,c,d,e,f,h+1,rfl,h2,h3,by simp only[List.forall_mem_cons];refine⟨?_,?_,?_,?_,?_,?_,?_,fun _ h=>by simp at h⟩<;>omega⟩
def WF.setN (w:WF D K)(g:K+1<=1000)(hs:D.L[c]? =some s)(hk:3<=k/\k<=7){q:Nod->Nod}(h1:∀n,(q n).par=n.par/\(q n).ch=n.ch/\(q n).kind=n.kind)(h2:s.used=true->vAt (q s.n).atts/\(s.n.kind=2->(q s.n).atts=[])):WF ((D.setN c q).cnt k) (K+1):=by
 have get:∀j,((D.setN c q).cnt k).L[j]? =if c=j then D.L[j]?.map (fun s=> {s with n:=q s.n})else D.L[j]? :=fun j=>m9 ..
 refine Sim.wf w ⟨by unfold DM.cnt DM.setN;simp,fun j s' hj=>?_,fun j s' hj=>?_,rfl⟩ g (w.cnt_of hk (yO (f:=fun s=> {s with n:=q s.n}) (fun _=>rfl) c) rfl);rw[get]at hj;by_cases e:c=j;subst e;rw[TJ rfl,hs]at hj;cases hj;exact⟨s,hs,rfl,rfl,(h1 _).1,(h1 _).2.1,(h1 _).2.2,fun d _=>⟨(h2 d).1,fun e _=>(h2 d).2 e⟩⟩;rw[TH e]at hj;exact⟨s',hj,rfl,rfl,rfl,rfl,rfl,fun _ h=>⟨h,fun _ h=>h⟩⟩;rw[get];by_cases e:c=j;subst e;rw[hs]at hj;cases hj;rw[TJ rfl,hs];exact⟨_,rfl,rfl,rfl,(h1 _).1,(h1 _).2.1⟩;rw[TH e];exact⟨s',hj,rfl,rfl,rfl,rfl⟩
def WF.kids (w:WF D K)(P:K+1<=1000)(hk:3<=k/\k<=7)(hp:D.L[p]? =some sp)(up:sp.used=true)(hc:D.L[c]? =some sc)(N:sc.used=true)(Q:p≠c)(h1:sp.n.kind=1){l:Ah}{z:Int}(hn:l.Nodup)(hl:∀j,j≠c->(j∈l↔j∈sp.n.ch))(hz:(z=p/\c∈l)\/(z= -1/\c∉l))(H:(sc.n.par= -1/\(z=p-> ¬Abv D c p))\/sc.n.par=p):WF (D.kids p c l z k) (K+1):=by
 have lim:=w.lim;have get:∀j:Nat,(D.kids p c l z k).L[j]? =D.L[j]?.map fun s=>(⟨s.g,s.used,{s.n with ch:=(if p=j then l else s.n.ch),par:=(if c=j then z else s.n.par)}⟩:Sl):=fun j=>by
  unfold DM.kids DM.cnt DM.setN;simp only[m9];cases D.L[j]? with
  |none=>simp|some s=>by_cases e:p=j<;>by_cases e':c=j<;>simp[e,e']
 have old:∀ {j s'},(D.kids p c l z k).L[j]? =some s'-> ∃s,D.L[j]? =some s/\s'.g=s.g/\s'.used=s.used/\s'.n.kind=s.n.kind/\s'.n.atts=s.n.atts/\s'.n.ch=(if p=j then l else s.n.ch)/\s'.n.par=if c=j then z else s.n.par:=fun{j s'} h=>by
  rw[get]at h;cases e:D.L[j]? with
  |none=>rw[e]at h;cases h
  |some s=>rw[e]at h;cases h;exact⟨s,rfl,rfl,rfl,rfl,rfl,rfl,rfl⟩
 have new:∀ {j s},D.L[j]? =some s-> ∃s',(D.kids p c l z k).L[j]? =some s'/\s'.used=s.used/\s'.n.ch=(if p=j then l else s.n.ch)/\s'.n.par=if c=j then z else s.n.par:=fun{j s} h=>by rw[get,h];exact⟨_,rfl,rfl,rfl,rfl⟩
 have I:sc.n.par=p->c∈sp.n.ch:=fun e=>by
  rcases w.par c sc hc N with e'| ⟨q,C,e',f,_,v⟩;omega
  ·have:q=p:=by omega
   subst this;rw[hp]at f;cases f;exact v
 have len:(D.kids p c l z k).L.length=D.L.length:=by unfold DM.kids DM.cnt DM.setN;simp
 have own:∀ {q C},D.L[q]? =some C->C.used=true->c∈C.n.ch->q=p:=fun{q C} h1 h2 h3=>by obtain⟨s,k1,k2,k3⟩:=(w.ch q C h1 h2).2 c h3;rw[hc]at k1;cases k1;rcases H with h|h<;>omega
 have cnt:(D.kids p c l z k).L.countP (·.used)=D.L.countP (·.used):=by
  have:(D.kids p c l z k).L.map (·.used)=D.L.map (·.used):=by apply List.ext_getElem?;intro j;rw[Ul,get,Ul];cases D.L[j]? <;>rfl
  have h:=congrArg (List.countP id) this;rwa[List.countP_map,List.countP_map]at h
 refine⟨⟨by rw[len];omega,P⟩,fun s' d=>?_,fun i s' d o=>?_,fun i s' d o=>?_,?_,fun i s' d o=>?_,w.cnt_of hk cnt rfl,fun i s' d o=>?_,w.free.1,fun i hi=>?_⟩;obtain⟨j,hj⟩:=Vk d;obtain⟨s,f,v,_⟩:=old hj;have:=w.gen s (Tv f);omega;obtain⟨s,f,v,t,E,A,x,F⟩:=old d;rw[t]at o;rw[F];by_cases e:c=i;rw[TJ e];rcases hz with⟨z1,z2⟩| ⟨z1,_⟩;obtain⟨J,p1,p2,y,u⟩:=new hp;rw[TJ rfl]at y;exact .inr ⟨p,J,z1,p1,by rw[p2];exact up,by rw[y,<-e];exact z2⟩;exact .inl z1;rw[TH e];rcases w.par i s f o with h| ⟨q,C,e1,e2,e3,e4⟩;exact .inl h;obtain⟨M,p1,p2,y,u⟩:=new e2;refine .inr ⟨q,M,e1,p1,by rw[p2];exact e3,?_⟩;rw[y];by_cases e':p=q;subst e';rw[hp]at e2;cases e2;rw[TJ rfl];exact(hl i (Ne.symm e)).2 e4;rw[TH e'];exact e4;obtain⟨s,f,v,t,E,A,x,F⟩:=old d;rw[t]at o;rw[x];by_cases e:p=i;subst e;rw[hp]at f;cases f;rw[TJ rfl];refine⟨hn,fun j hj=>?_⟩;by_cases e':j=c;subst e';obtain⟨sj,p1,p2,y,u⟩:=new hc;rw[TJ rfl]at u;exact⟨sj,p1,by rw[p2];exact N,by rw[u];rcases hz with h|h;exact h.1;exact absurd hj h.2⟩;obtain⟨sj,k1,k2,k3⟩:=(w.ch p sp hp up).2 j ((hl j e').1 hj);obtain⟨B,p1,p2,y,u⟩:=new k1;rw[TH (Ne.symm e')]at u;exact⟨B,p1,by rw[p2];exact k2,by rw[u];exact k3⟩;rw[TH e];refine⟨(w.ch i s f o).1,fun j hj=>?_⟩;have e':j≠c:=fun h=>e (own f o (h▸hj)).symm;obtain⟨sj,k1,k2,k3⟩:=(w.ch i s f o).2 j hj;obtain⟨B,p1,p2,y,u⟩:=new k1;rw[TH (Ne.symm e')]at u;exact⟨B,p1,by rw[p2];exact k2,by rw[u];exact k3⟩
 ·obtain⟨r,_,hr⟩:=w.rank;have edge:∀ {i s' j},(D.kids p c l z k).L[i]? =some s'->s'.used=true->j∈s'.n.ch->(∃s,D.L[i]? =some s/\s.used=true/\j∈s.n.ch)\/(i=p/\j=c/\c∉sp.n.ch):=fun{i s' j} d o hj=>by obtain⟨s,f,v,t,E,A,x,F⟩:=old d;rw[t]at o;rw[x]at hj;by_cases e:p=i;subst e;rw[hp]at f;cases f;rw[TJ rfl]at hj;by_cases e':j=c;subst e';by_cases m:j∈sp.n.ch;exact .inl ⟨sp,hp,o,m⟩;exact .inr ⟨rfl,rfl,m⟩;exact .inl ⟨sp,hp,o,(hl j e').1 hj⟩;rw[TH e]at hj;exact .inl ⟨s,f,o,hj⟩
  by_cases G:z=p/\sc.n.par= -1
  ·have O:¬Abv D c p:=by rcases H with h|h;exact h.2 G.1;omega
   have R:c∉sp.n.ch:=fun m=>by obtain⟨s,k1,k2,k3⟩:=(w.ch p sp hp up).2 c m;rw[hc]at k1;cases k1;omega
   refine Bw (by rw[len];omega) (r:=fun i=>open Classical in if Abv D c i then r i+(r p+1)else r i) fun i s' d o j hj=>?_;rcases edge d o hj with⟨s,k1,k2,k3⟩| ⟨rfl,rfl,_⟩;have h:=hr i s k1 k2 j k3;obtain⟨sj,f,v,t⟩:=(w.ch i s k1 k2).2 j k3;by_cases e:Abv D c i;have:Abv D c j:= .up _ _ _ f t e;simp only[TJ e,TJ this];omega;simp only[TH e];split<;>omega;simp only[TH O,TJ (Abv.here (D:=D) (a:=j))];omega
  refine Bw (by rw[len];omega) (r:=r) fun i s' d o j hj=>?_;rcases edge d o hj with⟨s,k1,k2,k3⟩| ⟨rfl,rfl,m⟩;exact hr i s k1 k2 j k3;obtain⟨s,f,v,t,E,A,x,F⟩:=old d;rw[x,TJ rfl]at hj;rcases hz with h|h;rcases H with h'|h';exact absurd ⟨h.1,h'.1⟩ G;exact absurd (I h') m;exact absurd hj h.2
 obtain⟨s,f,v,t,E,A,x,F⟩:=old d;rw[t]at o;rw[A];exact w.atts i s f o;obtain⟨s,f,v,t,E,A,x,F⟩:=old d;rw[t]at o;rw[E,A,x];obtain⟨k1,k2⟩:=w.kind i s f o;refine⟨k1,fun e=>⟨?_,(k2 e).2⟩⟩;by_cases e':p=i;subst e';rw[hp]at f;cases f;omega;rw[TH e'];exact(k2 e).1;obtain⟨s,h1,h2⟩:=w.free.2 i hi;obtain⟨s',k1,k2,_⟩:=new h1;exact⟨s',k1,by rw[k2];exact h2⟩
