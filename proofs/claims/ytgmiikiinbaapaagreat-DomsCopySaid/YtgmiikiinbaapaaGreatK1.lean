/- The DOM: what is always so stays so: a node's own fields, counters, children.
  Conditions: none. -/
import Derived.Test.YtgmiikiinbaapaaGreatJ1
set_option linter.all false
noncomputable section
namespace Go.D
open Go Go.Xe Go.Sx
section
variable {D D':DM}{K a b c p k:Nat}{s sp sc:Sl}
theorem Dd {p q:Nat->Bool}:∀ {l:Ah} {x:Nat},(∀y,p y=true->q y=true)->x∈l->q x=true->p x=false->l.countP p<l.countP q
 |y::l,x,h,hx,h1,h2=>by have mono:∀l:Ah,l.countP p<=l.countP q:=fun l=>List.countP_mono_left fun y _=>h y;rw[List.countP_cons,List.countP_cons];rcases Rp.1 hx with rfl|hx;have:=mono l;rw[h1,h2];simp;omega;have:=Dd h hx h1 h2;have:p y=true->q y=true:=h y;cases e:p y<;>cases e':q y<;>simp_all<;>omega
def Bz (hl:D.L.length<=K){r:Nat->Nat}(hr:∀(i:Nat) s,D.L[i]? =some s->s.used=true-> ∀j∈s.n.ch,r i<r j):∃r:Nat->Nat,(∀i,r i<=K)/\ ∀(i:Nat) s,D.L[i]? =some s->s.used=true-> ∀j∈s.n.ch,r i<r j:=by
 refine⟨fun i=>(List.range D.L.length).countP fun j=>decide (r j<r i),fun i=>?_,fun i s hs d j hj=>?_⟩;have:=List.countP_le_length (p:=fun j=>decide (r j<r i)) (l:=List.range D.L.length);rw[List.length_range]at this;show(List.range D.L.length).countP (fun j=>decide (r j<r i))<=K;omega
 ·have h:=hr i s hs d j hj;refine Dd (x:=i) (fun y hy=>?_) (List.mem_range.2 (QD.1 hs).1) (by simpa using h) (by simp);have:r y<r i:=by simpa using hy
  simp;omega
structure Sim (D D':DM):Prop where
 len:D'.L.length=D.L.length
 old:∀(j:Nat) s',D'.L[j]? =some s'-> ∃s,D.L[j]? =some s/\s'.g=s.g/\s'.used=s.used/\s'.n.par=s.n.par/\s'.n.ch=s.n.ch/\s'.n.kind=s.n.kind/\(s.used=true->vAt s.n.atts->vAt s'.n.atts/\(s.n.kind=2->s.n.atts=[]->s'.n.atts=[]))
 new:∀(j:Nat) s,D.L[j]? =some s-> ∃s',D'.L[j]? =some s'/\s'.g=s.g/\s'.used=s.used/\s'.n.par=s.n.par/\s'.n.ch=s.n.ch
 free:D'.free=D.free
def Cnt (D:DM)(K:Nat):Prop:=∃a b c d e f h:Int,D.C=[(D.L.countP (·.used):Int),a,b,c,d,e,f,h]/\a=D.L.countP (·.used)+b/\0<=b/\(∀x∈ [a,b,c,d,e,f,h],0<=x/\x<=K)
def Sim.wf (w:WF D K)(h:Sim D D')(v:K+1<=1000)(hc:Cnt D' (K+1)):WF D' (K+1):=by have lim:=w.lim;refine⟨⟨by rw[h.len];omega,v⟩,fun s' d=>?_,fun i s' d f=>?_,fun i s' d f=>?_,?_,fun i s' d f=>?_,hc,fun i s' d f=>?_,?_⟩;obtain⟨j,hj⟩:=SM d;obtain⟨s,h1,h2,_⟩:=h.old j s' hj;have:=w.gen s (QK h1);omega;obtain⟨s,h1,h2,h3,h4,g,l,_⟩:=h.old i s' d;rw[h3]at f;rw[h4];rcases w.par i s h1 f with e| ⟨p,sp,e,k1,k2,k3⟩;exact .inl e;obtain⟨t,n,u,o,B,z⟩:=h.new p sp k1;exact .inr ⟨p,t,e,n,by rw[o];exact k2,by rw[z];exact k3⟩;obtain⟨s,h1,h2,h3,h4,g,l,_⟩:=h.old i s' d;rw[h3]at f;rw[g];obtain⟨k1,k2⟩:=w.ch i s h1 f;refine⟨k1,fun j hj=>?_⟩;obtain⟨sj,n,u,o⟩:=k2 j hj;obtain⟨q,p1,p2,x,y,A⟩:=h.new j sj n;exact⟨q,p1,by rw[x];exact u,by rw[y];exact o⟩;obtain⟨r,h1,h2⟩:=w.rank;refine Bz (by rw[h.len];omega) (r:=r) fun i s' d f j hj=>?_;obtain⟨s,h1,_,h3,h4,g,l,_⟩:=h.old i s' d;rw[h3]at f;rw[g]at hj;exact h2 i s h1 f j hj;obtain⟨s,h1,_,h3,h4,g,l,m⟩:=h.old i s' d;rw[h3]at f;exact(m f (w.atts i s h1 f)).1;obtain⟨s,h1,_,h3,h4,g,l,m⟩:=h.old i s' d;rw[h3]at f;obtain⟨k1,k2⟩:=w.kind i s h1 f;rw[l,g];exact⟨k1,fun e=>⟨(k2 e).1,(m f (w.atts i s h1 f)).2 e (k2 e).2⟩⟩;rw[h.free];refine⟨w.free.1,fun i hi=>?_⟩;obtain⟨s,h1,h2⟩:=w.free.2 i hi;obtain⟨s',k1,_,k2,_⟩:=h.new i s h1;exact⟨s',k1,by rw[k2];exact h2⟩
def WF.cnt_of (w:WF D K)(hk:3<=k/\k<=7)(hL:D'.L.countP (·.used)=D.L.countP (·.used))(g:D'.C=D.C.modify k (· +1)):Cnt D' (K+1):=by
 obtain⟨a,b,c,d,e,f,h,h1,h2,h3,h4⟩:=w.cnt;unfold Cnt;rw[g,hL,h1];simp only[List.forall_mem_cons]at h4;obtain⟨i,j,l,m,n,o,q,_⟩:=h4;have:k=3\/k=4\/k=5\/k=6\/k=7:=by omega
 rcases this with rfl|rfl|rfl|rfl|rfl;exact⟨a,b,c+1,d,e,f,h,rfl,h2,h3,by simp only[List.forall_mem_cons];refine⟨?_,?_,?_,?_,?_,?_,?_,fun _ h=>by simp at h⟩<;>omega⟩;exact⟨a,b,c,d+1,e,f,h,rfl,h2,h3,by simp only[List.forall_mem_cons];refine⟨?_,?_,?_,?_,?_,?_,?_,fun _ h=>by simp at h⟩<;>omega⟩;exact⟨a,b,c,d,e+1,f,h,rfl,h2,h3,by simp only[List.forall_mem_cons];refine⟨?_,?_,?_,?_,?_,?_,?_,fun _ h=>by simp at h⟩<;>omega⟩;exact⟨a,b,c,d,e,f+1,h,rfl,h2,h3,by simp only[List.forall_mem_cons];refine⟨?_,?_,?_,?_,?_,?_,?_,fun _ h=>by simp at h⟩<;>omega⟩;exact⟨a,b,c,d,e,f,h+1,rfl,h2,h3,by simp only[List.forall_mem_cons];refine⟨?_,?_,?_,?_,?_,?_,?_,fun _ h=>by simp at h⟩<;>omega⟩
def WF.setN (w:WF D K)(g:K+1<=1000)(hs:D.L[c]? =some s)(hk:3<=k/\k<=7){q:Nod->Nod}(h1:∀n,(q n).par=n.par/\(q n).ch=n.ch/\(q n).kind=n.kind)(h2:s.used=true->vAt (q s.n).atts/\(s.n.kind=2->(q s.n).atts=[])):WF ((D.setN c q).cnt k) (K+1):=by
 have get:∀j,((D.setN c q).cnt k).L[j]? =if c=j then D.L[j]?.map (fun s=> {s with n:=q s.n})else D.L[j]? :=fun j=>j6 ..
 refine Sim.wf w ⟨by unfold DM.cnt DM.setN;simp,fun j s' hj=>?_,fun j s' hj=>?_,rfl⟩ g (w.cnt_of hk (zF (f:=fun s=> {s with n:=q s.n}) (fun _=>rfl) c) rfl);rw[get]at hj;by_cases e:c=j;subst e;rw[QW rfl,hs]at hj;cases hj;exact⟨s,hs,rfl,rfl,(h1 _).1,(h1 _).2.1,(h1 _).2.2,fun d _=>⟨(h2 d).1,fun e _=>(h2 d).2 e⟩⟩;rw[QU e]at hj;exact⟨s',hj,rfl,rfl,rfl,rfl,rfl,fun _ h=>⟨h,fun _ h=>h⟩⟩;rw[get];by_cases e:c=j;subst e;rw[hs]at hj;cases hj;rw[QW rfl,hs];exact⟨_,rfl,rfl,rfl,(h1 _).1,(h1 _).2.1⟩;rw[QU e];exact⟨s',hj,rfl,rfl,rfl,rfl⟩
def WF.kids (w:WF D K)(U:K+1<=1000)(hk:3<=k/\k<=7)(hp:D.L[p]? =some sp)(up:sp.used=true)(hc:D.L[c]? =some sc)(Q:sc.used=true)(V:p≠c)(h1:sp.n.kind=1){l:Ah}{z:Int}(hn:l.Nodup)(hl:∀j,j≠c->(j∈l↔j∈sp.n.ch))(hz:(z=p/\c∈l)\/(z= -1/\c∉l))(I:(sc.n.par= -1/\(z=p-> ¬Abv D c p))\/sc.n.par=p):WF (D.kids p c l z k) (K+1):=by
 have lim:=w.lim;have get:∀j:Nat,(D.kids p c l z k).L[j]? =D.L[j]?.map fun s=>(⟨s.g,s.used,{s.n with ch:=(if p=j then l else s.n.ch),par:=(if c=j then z else s.n.par)}⟩:Sl):=fun j=>by
  unfold DM.kids DM.cnt DM.setN;simp only[j6];cases D.L[j]? with
  |none=>simp|some s=>by_cases e:p=j<;>by_cases e':c=j<;>simp[e,e']
 have old:∀ {j s'},(D.kids p c l z k).L[j]? =some s'-> ∃s,D.L[j]? =some s/\s'.g=s.g/\s'.used=s.used/\s'.n.kind=s.n.kind/\s'.n.atts=s.n.atts/\s'.n.ch=(if p=j then l else s.n.ch)/\s'.n.par=if c=j then z else s.n.par:=fun{j s'} h=>by
  rw[get]at h;cases e:D.L[j]? with
  |none=>rw[e]at h;cases h
  |some s=>rw[e]at h;cases h;exact⟨s,rfl,rfl,rfl,rfl,rfl,rfl,rfl⟩
 have new:∀ {j s},D.L[j]? =some s-> ∃s',(D.kids p c l z k).L[j]? =some s'/\s'.used=s.used/\s'.n.ch=(if p=j then l else s.n.ch)/\s'.n.par=if c=j then z else s.n.par:=fun{j s} h=>by rw[get,h];exact⟨_,rfl,rfl,rfl,rfl⟩
 have J:sc.n.par=p->c∈sp.n.ch:=fun e=>by
  rcases w.par c sc hc Q with e'| ⟨q,C,e',f,_,v⟩;omega
  ·have:q=p:=by omega
   subst this;rw[hp]at f;cases f;exact v
 have len:(D.kids p c l z k).L.length=D.L.length:=by unfold DM.kids DM.cnt DM.setN;simp
 have own:∀ {q C},D.L[q]? =some C->C.used=true->c∈C.n.ch->q=p:=fun{q C} h1 h2 h3=>by obtain⟨s,k1,k2,k3⟩:=(w.ch q C h1 h2).2 c h3;rw[hc]at k1;cases k1;rcases I with h|h<;>omega
 have cnt:(D.kids p c l z k).L.countP (·.used)=D.L.countP (·.used):=by
  have:(D.kids p c l z k).L.map (·.used)=D.L.map (·.used):=by apply List.ext_getElem?;intro j;rw[RB,get,RB];cases D.L[j]? <;>rfl
  have h:=congrArg (List.countP id) this;rwa[List.countP_map,List.countP_map]at h
 refine⟨⟨by rw[len];omega,U⟩,fun s' d=>?_,fun i s' d o=>?_,fun i s' d o=>?_,?_,fun i s' d o=>?_,w.cnt_of hk cnt rfl,fun i s' d o=>?_,w.free.1,fun i hi=>?_⟩;obtain⟨j,hj⟩:=SM d;obtain⟨s,f,v,_⟩:=old hj;have:=w.gen s (QK f);omega;obtain⟨s,f,v,t,E,A,x,F⟩:=old d;rw[t]at o;rw[F];by_cases e:c=i;rw[QW e];rcases hz with⟨O,W⟩| ⟨O,_⟩;obtain⟨M,p1,p2,y,u⟩:=new hp;rw[QW rfl]at y;exact .inr ⟨p,M,O,p1,by rw[p2];exact up,by rw[y,<-e];exact W⟩;exact .inl O;rw[QU e];rcases w.par i s f o with h| ⟨q,C,R,H,S,P⟩;exact .inl h;obtain⟨N,p1,p2,y,u⟩:=new H;refine .inr ⟨q,N,R,p1,by rw[p2];exact S,?_⟩;rw[y];by_cases e':p=q;subst e';rw[hp]at H;cases H;rw[QW rfl];exact(hl i (Ne.symm e)).2 P;rw[QU e'];exact P;obtain⟨s,f,v,t,E,A,x,F⟩:=old d;rw[t]at o;rw[x];by_cases e:p=i;subst e;rw[hp]at f;cases f;rw[QW rfl];refine⟨hn,fun j hj=>?_⟩;by_cases e':j=c;subst e';obtain⟨sj,p1,p2,y,u⟩:=new hc;rw[QW rfl]at u;exact⟨sj,p1,by rw[p2];exact Q,by rw[u];rcases hz with h|h;exact h.1;exact absurd hj h.2⟩;obtain⟨sj,k1,k2,k3⟩:=(w.ch p sp hp up).2 j ((hl j e').1 hj);obtain⟨B,p1,p2,y,u⟩:=new k1;rw[QU (Ne.symm e')]at u;exact⟨B,p1,by rw[p2];exact k2,by rw[u];exact k3⟩;rw[QU e];refine⟨(w.ch i s f o).1,fun j hj=>?_⟩;have e':j≠c:=fun h=>e (own f o (h▸hj)).symm;obtain⟨sj,k1,k2,k3⟩:=(w.ch i s f o).2 j hj;obtain⟨B,p1,p2,y,u⟩:=new k1;rw[QU (Ne.symm e')]at u;exact⟨B,p1,by rw[p2];exact k2,by rw[u];exact k3⟩
 ·obtain⟨r,_,hr⟩:=w.rank;have edge:∀ {i s' j},(D.kids p c l z k).L[i]? =some s'->s'.used=true->j∈s'.n.ch->(∃s,D.L[i]? =some s/\s.used=true/\j∈s.n.ch)\/(i=p/\j=c/\c∉sp.n.ch):=fun{i s' j} d o hj=>by obtain⟨s,f,v,t,E,A,x,F⟩:=old d;rw[t]at o;rw[x]at hj;by_cases e:p=i;subst e;rw[hp]at f;cases f;rw[QW rfl]at hj;by_cases e':j=c;subst e';by_cases m:j∈sp.n.ch;exact .inl ⟨sp,hp,o,m⟩;exact .inr ⟨rfl,rfl,m⟩;exact .inl ⟨sp,hp,o,(hl j e').1 hj⟩;rw[QU e]at hj;exact .inl ⟨s,f,o,hj⟩
  by_cases G:z=p/\sc.n.par= -1
  ·have T:¬Abv D c p:=by rcases I with h|h;exact h.2 G.1;omega
   have X:c∉sp.n.ch:=fun m=>by obtain⟨s,k1,k2,k3⟩:=(w.ch p sp hp up).2 c m;rw[hc]at k1;cases k1;omega
   refine Bz (by rw[len];omega) (r:=fun i=>open Classical in if Abv D c i then r i+(r p+1)else r i) fun i s' d o j hj=>?_;rcases edge d o hj with⟨s,k1,k2,k3⟩| ⟨rfl,rfl,_⟩;have h:=hr i s k1 k2 j k3;obtain⟨sj,f,v,t⟩:=(w.ch i s k1 k2).2 j k3;by_cases e:Abv D c i;have:Abv D c j:= .up _ _ _ f t e;simp only[QW e,QW this];omega;simp only[QU e];split<;>omega;simp only[QU T,QW (Abv.here (D:=D) (a:=j))];omega
  refine Bz (by rw[len];omega) (r:=r) fun i s' d o j hj=>?_;rcases edge d o hj with⟨s,k1,k2,k3⟩| ⟨rfl,rfl,m⟩;exact hr i s k1 k2 j k3;obtain⟨s,f,v,t,E,A,x,F⟩:=old d;rw[x,QW rfl]at hj;rcases hz with h|h;rcases I with h'|h';exact absurd ⟨h.1,h'.1⟩ G;exact absurd (J h') m;exact absurd hj h.2
 obtain⟨s,f,v,t,E,A,x,F⟩:=old d;rw[t]at o;rw[A];exact w.atts i s f o;obtain⟨s,f,v,t,E,A,x,F⟩:=old d;rw[t]at o;rw[E,A,x];obtain⟨k1,k2⟩:=w.kind i s f o;refine⟨k1,fun e=>⟨?_,(k2 e).2⟩⟩;by_cases e':p=i;subst e';rw[hp]at f;cases f;omega;rw[QU e'];exact(k2 e).1;obtain⟨s,h1,h2⟩:=w.free.2 i hi;obtain⟨s',k1,k2,_⟩:=new h1;exact⟨s',k1,by rw[k2];exact h2⟩
end
section
variable {D D':DM}{K a b c p k:Nat}{s sp sc:Sl}{i g j m x y:Int}{l:Ah}
def WF.mono (w:WF D K){n:Nat}(h:K<=n)(u:n<=1000):WF D n:=by obtain⟨h1,h2,h3,h4,⟨r,r1,z⟩,o,⟨a,b,c,d,e,f,h',k1,k2,k3,v⟩,q,t⟩:=w;refine⟨⟨by omega,u⟩,fun s hs=>?_,h3,h4,⟨r,fun i=>?_,z⟩,o,⟨a,b,c,d,e,f,h',k1,k2,k3,fun x hx=>?_⟩,q,t⟩;have:=h2 s hs;omega;have:=r1 i;omega;have:=v x hx;omega
def WF.text (w:WF D K)(d:K+1<=1000){t:Str}:WF (aR D i g t).1 (K+1):=by
 have w':=w.mono (Sc K) d;unfold aR;cases hc:D.at i g with
 |none=>exact w'|some c=>obtain⟨s,h1,h2,_⟩:=SP hc;simp only;split;exact w';exact w.setN d h1 ⟨by omega,by omega⟩ (fun _=>⟨rfl,rfl,rfl⟩) fun f=>⟨w.atts c s h1 f,fun e=>((w.kind c s h1 f).2 e).2⟩
def WF.pla (w:WF D K)(d:K+1<=1000){t z:Int}{b:Bool}:WF (mS D i g t z b).1 (K+1):=by
 have w':=w.mono (Sc K) d;unfold mS;cases hc:D.at i g with
 |none=>exact w'|some c=>obtain⟨s,h1,h2,_⟩:=SP hc;simp only;split;exact w';exact w.setN d h1 ⟨by omega,by omega⟩ (fun _=>⟨rfl,rfl,rfl⟩) fun f=>⟨w.atts c s h1 f,fun e=>((w.kind c s h1 f).2 e).2⟩
def sX {e:Ed}{a:Att}:∀ {l:List Att},a∈O6 l e->a∈l\/(a.n=e.n/\a.v=e.v)
 | [],h=>by unfold O6 edA at h;split at h;simp at h;rw[RR.1 h];exact .inr ⟨rfl,rfl⟩|b::l,h=>by
  have d:a∈edA e->a.n=e.n/\a.v=e.v:=fun h=>by unfold edA at h;split at h;simp at h;rw[RR.1 h];exact⟨rfl,rfl⟩
  unfold O6 at h;split at h;rcases Rp.1 h with rfl|h;exact .inl List.mem_cons_self;rcases sX h with h|h;exact .inl (RK _ h);exact .inr h;split at h;rcases Ro.1 h with h|h;exact .inr (d h);exact .inl (RK _ h);rcases Ro.1 h with h|h;exact .inr (d h);exact .inl h
def CV {e:Ed}:∀ {l:List Att},Asc (l.map Att.n)->Asc ((O6 l e).map Att.n)
 | [],_=>by unfold O6 edA;split<;>simp[Asc]|b::l,h=>by
  obtain⟨h1,h2⟩:=List.pairwise_cons.1 h;have below:∀ {l':List Att},(∀z∈l'.map Att.n,lt e.n z=true)->Asc (l'.map Att.n)->Asc ((edA e++l').map Att.n):=fun{l'} t q=>by unfold edA;split;exact q;exact List.pairwise_cons.2 ⟨t,q⟩
  unfold O6;by_cases d:lt b.n e.n=true;rw[QW d,RC];refine List.pairwise_cons.2 ⟨fun z hz=>?_,CV h2⟩;obtain⟨a,r,rfl⟩:=Sj.1 hz;rcases sX r with h|h;exact h1 _ (List.mem_map_of_mem h);rw[h.1];exact d;rw[QU d];by_cases f:b.n=e.n;rw[QW f];exact below (fun z hz=>by rw[<-f];exact h1 z hz) h2;rw[QU f];have o:lt e.n b.n=true:=Bn (by simpa using d) f;exact below (fun z hz=>by rcases Rp.1 hz with rfl|hz;exact o;exact mO o (h1 z hz)) h
def Pn {l:List Att}{e:Ed}(h:vAt l)(he:bC e=true)(h0:(apF l e).2=0):vAt (apF l e).1:=by unfold apF at h0⊢;split at h0;simp at h0;split at h0;simp at h0;rename_i h1 h2;rw[QU h1,QU h2];refine⟨by simpa using h2,fun a d=>?_,CV h.2.2⟩;rcases sX d with h'|h';exact h.2.1 a h';unfold bC at he;simp only[QB]at he;rw[h'.1,h'.2];exact⟨he.1.1,he.1.2⟩
def WF.edt (w:WF D K)(d:K+1<=1000){e:Ed}{r:Int}:WF (U6 D i g e r).1 (K+1):=by
 have w':=w.mono (Sc K) d;unfold U6;cases hc:D.at i g with
 |none=>exact w'|some c=>
  obtain⟨s,h1,h2,_⟩:=SP hc;simp only;rw[SU h1];split;exact w'
  ·split;exact w'
   ·split
    ·rename_i hk he h0;refine w.setN d h1 ⟨by omega,by omega⟩ (fun _=>⟨rfl,rfl,rfl⟩) fun h=>⟨Pn (w.atts c s h1 h) (by simpa using he) h0,fun f=>?_⟩
     exact absurd f (by simp at hk;omega)
    exact w'
def Jo (hn:l.Nodup){a:Int}(e:a<0\/(0<=a/\a.toNat∈l)):∃t d,t++d=l/\T8 l c a=t++ [c]++d:=by rcases e with h| ⟨h0,h⟩;exact⟨l,[],by simp,by rw[HV h];simp⟩;refine⟨l.take (l.idxOf a.toNat),l.drop (l.idxOf a.toNat),Sz ..,?_⟩;have:=Gn (c:=c) hn h;rw[this];congr 1;omega
def HX (hn:l.Nodup)(hc:c∉l){a:Int}(f:a<0\/(0<=a/\a.toNat∈l)):(T8 l c a).Nodup/\ ∀j,j∈T8 l c a↔j=c\/j∈l:=by obtain⟨t,d,rfl,e⟩:=Jo (c:=c) hn f;rw[e];constructor;rw[SL]at hn⊢;simp only[Ro,not_or]at hc;refine⟨SL.2 ⟨hn.1,by simp,fun q hq r hr=>?_⟩,hn.2.1,fun q hq r hr=>?_⟩;rw[RR.1 hr];rintro rfl;exact hc.1 hq;rcases Ro.1 hq with h|h;exact hn.2.2 q h r hr;rw[RR.1 h];rintro rfl;exact hc.2 hr;intro j;simp only[Ro,RR];constructor;rintro ((h|h)|h);exact .inr (.inl h);exact .inl h;exact .inr (.inr h);rintro (h|h|h);exact .inl (.inr h);exact .inl (.inl h);exact .inr h
def DM.opt_lo {a:Int}(h:D.opt x y=some a):a= -1\/0<=a:=by unfold DM.opt at h;split at h;cases h;exact .inl rfl;split at h;cases h;exact .inr (by omega);cases h
def DM.par_of (w:WF D K)(hs:D.L[c]? =some s)(d:s.used=true)(hp:s.n.par≠ -1):∃(p:Nat) (sp:Sl),s.n.par=p/\D.L[p]? =some sp/\sp.used=true/\c∈sp.n.ch/\p≠c/\sp.n.kind=1:=by rcases w.par c s hs d with e| ⟨p,sp,e,h1,h2,h3⟩;exact absurd e hp;obtain⟨r,_,hr⟩:=w.rank;have:=hr p sp h1 h2 c h3;refine⟨p,sp,e,h1,h2,h3,by rintro rfl;omega,?_⟩;obtain⟨k1,k2⟩:=w.kind p sp h1 h2;rcases k1 with h|h;exact h;rw[(k2 h).1]at h3;simp at h3
def WF.ins (w:WF D K)(f:K+1<=1000):WF (dD D i g j m x y).1 (K+1):=by
 have w':=w.mono (Sc K) f;unfold dD;split
 ·rename_i p c a hp hc q;obtain⟨sp,h1,h2,_⟩:=SP hp;obtain⟨sc,k1,k2,_⟩:=SP hc;rw[SU h1,SU k1];split;exact w'
  ·split;exact w'
   ·split;exact w'
    ·rename_i t d u;rw[not_or]at d;have hr:sc.n.par= -1:=Classical.not_not.1 d.1;have hn:=(w.ch p sp h1 h2).1;have o:c∉sp.n.ch:=fun r=>by obtain⟨s,e,v,z⟩:=(w.ch p sp h1 h2).2 c r;rw[k1]at e;cases e;omega
     have hs:=HX (c:=c) hn o (a:=a) (by rcases DM.opt_lo q with h|h;exact .inl (by omega);exact .inr ⟨h,Classical.not_not.1 fun h'=>u ⟨h,h'⟩⟩);exact w.kids f ⟨by omega,by omega⟩ h1 h2 k1 k2 (by rintro rfl;exact d.2 .here) (by simpa using t) hs.1 (fun j hj=>by rw[hs.2];simp[hj]) (.inl ⟨rfl,(hs.2 c).2 (.inl rfl)⟩) (.inl ⟨hr,fun _=>d.2⟩)
 exact w'
def WF.rem (w:WF D K)(d:K+1<=1000):WF (kR D i g).1 (K+1):=by have w':=w.mono (Sc K) d;unfold kR;split;rename_i c hc;obtain⟨sc,k1,k2,_⟩:=SP hc;rw[SU k1];split;exact w';rename_i hp;obtain⟨p,sp,e,h1,h2,h3,h4,f⟩:=DM.par_of w k1 k2 hp;rw[e,Rs,SU h1];exact w.kids d ⟨by omega,by omega⟩ h1 h2 k1 k2 h4 f ((w.ch p sp h1 h2).1.filter _) (fun j hj=>by rw[iT];simp[hj]) (.inr ⟨rfl,fun h=>(iT.1 h).2 rfl⟩) (.inr e);exact w'
def WF.mov (w:WF D K)(d:K+1<=1000):WF (cE D i g x y).1 (K+1):=by have w':=w.mono (Sc K) d;unfold cE;split;rename_i c a hc o;obtain⟨sc,k1,k2,_⟩:=SP hc;rw[SU k1];split;exact w';rename_i hp;obtain⟨p,sp,e,h1,h2,h3,h4,f⟩:=DM.par_of w k1 k2 hp;rw[e,Rs,SU h1];split;exact w';rename_i q;rw[not_or]at q;have hs:=HX (c:=c) (l:=K6 sp.n.ch c) ((w.ch p sp h1 h2).1.filter _) (fun h=>(iT.1 h).2 rfl) (a:=a) (by rcases DM.opt_lo o with h|h;exact .inl (by omega);exact .inr ⟨h,iT.2 ⟨Classical.not_not.1 fun h'=>q.2 ⟨h,h'⟩,fun e=>q.1 (by omega)⟩⟩);exact w.kids d ⟨by omega,by omega⟩ h1 h2 k1 k2 h4 f hs.1 (fun j hj=>by rw[hs.2,iT];simp[hj]) (.inl ⟨rfl,(hs.2 c).2 (.inl rfl)⟩) (.inr e);exact w'
