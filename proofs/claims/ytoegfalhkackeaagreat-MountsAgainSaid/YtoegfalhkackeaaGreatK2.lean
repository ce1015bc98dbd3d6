/- The DOM: what is always so stays so: texts, places, attributes, Insert, Remove, Move.
  Conditions: none. -/
import Derived.Test.YtoegfalhkackeaaGreatK1
set_option linter.all false
noncomputable section
namespace Go.D
open Go Go.Xe Go.Sx
section
variable {D D':DM}{K a b c p k:Nat}{s sp sc:Sl}{i g j m x y:Int}{l:Ah}
def WF.mono (w:WF D K){n:Nat}(h:K<=n)(u:n<=1000):WF D n:=by obtain⟨h1,h2,h3,h4,⟨r,r1,v⟩,o,⟨a,b,c,d,e,f,h',k1,k2,k3,k4⟩,q,t⟩:=w;refine⟨⟨by omega,u⟩,fun s hs=>?_,h3,h4,⟨r,fun i=>?_,v⟩,o,⟨a,b,c,d,e,f,h',k1,k2,k3,fun x hx=>?_⟩,q,t⟩;have:=h2 s hs;omega;have:=r1 i;omega;have:=k4 x hx;omega
def WF.text (w:WF D K)(d:K+1<=1000){t:Str}:WF (QW D i g t).1 (K+1):=by
 have w':=w.mono (UI K) d;unfold QW;cases hc:D.at i g with
 |none=>exact w'|some c=>obtain⟨s,h1,h2,_⟩:=Vm hc;simp only;split;exact w';exact w.setN d h1 ⟨by omega,by omega⟩ (fun _=>⟨rfl,rfl,rfl⟩) fun f=>⟨w.atts c s h1 f,fun e=>((w.kind c s h1 f).2 e).2⟩
def sU {e:Ed}{a:Att}:∀ {l:List Att},a∈bY l e->a∈l\/(a.n=e.n/\a.v=e.v)
 | [],h=>by unfold bY edA at h;split at h;simp at h;rw[Uz.1 h];exact .inr ⟨rfl,rfl⟩|b::l,h=>by
  have d:a∈edA e->a.n=e.n/\a.v=e.v:=fun h=>by unfold edA at h;split at h;simp at h;rw[Uz.1 h];exact⟨rfl,rfl⟩
  unfold bY at h;split at h;rcases TZ.1 h with rfl|h;exact .inl List.mem_cons_self;rcases sU h with h|h;exact .inl (Ut _ h);exact .inr h;split at h;rcases TY.1 h with h|h;exact .inr (d h);exact .inl (Ut _ h);rcases TY.1 h with h|h;exact .inr (d h);exact .inl h
def CG {e:Ed}:∀ {l:List Att},Asc (l.map Att.n)->Asc ((bY l e).map Att.n)
 | [],_=>by unfold bY edA;split<;>simp[Asc]|b::l,h=>by
  obtain⟨h1,h2⟩:=List.pairwise_cons.1 h;have below:∀ {l':List Att},(∀z∈l'.map Att.n,lt e.n z=true)->Asc (l'.map Att.n)->Asc ((edA e++l').map Att.n):=fun{l'} o d=>by unfold edA;split;exact d;exact List.pairwise_cons.2 ⟨o,d⟩
  unfold bY;by_cases e1:lt b.n e.n=true;rw[TJ e1,Um];refine List.pairwise_cons.2 ⟨fun z hz=>?_,CG h2⟩;obtain⟨a,f,rfl⟩:=UO.1 hz;rcases sU f with h|h;exact h1 _ (List.mem_map_of_mem h);rw[h.1];exact e1;rw[TH e1];by_cases e2:b.n=e.n;rw[TJ e2];exact below (fun z hz=>by rw[<-e2];exact h1 z hz) h2;rw[TH e2];have e3:lt e.n b.n=true:=FX (by simpa using e1) e2;exact below (fun z hz=>by rcases TZ.1 hz with rfl|hz;exact e3;exact nI e3 (h1 z hz)) h
def Rc {l:List Att}{e:Ed}(h:vAt l)(he:pP e=true)(h0:(apF l e).2=0):vAt (apF l e).1:=by unfold apF at h0⊢;split at h0;simp at h0;split at h0;simp at h0;rename_i h1 h2;rw[TH h1,TH h2];refine⟨by simpa using h2,fun a d=>?_,CG h.2.2⟩;rcases sU d with h'|h';exact h.2.1 a h';unfold pP at he;simp only[Tl]at he;rw[h'.1,h'.2];exact⟨he.1.1,he.1.2⟩
def WF.edt (w:WF D K)(d:K+1<=1000){e:Ed}{r:Int}:WF (fZ D i g e r).1 (K+1):=by
 have w':=w.mono (UI K) d;unfold fZ;cases hc:D.at i g with
 |none=>exact w'|some c=>
  obtain⟨s,h1,h2,_⟩:=Vm hc;simp only;rw[Vp h1];split;exact w'
  ·split;exact w'
   ·split
    ·rename_i hk he h0;refine w.setN d h1 ⟨by omega,by omega⟩ (fun _=>⟨rfl,rfl,rfl⟩) fun f=>⟨Rc (w.atts c s h1 f) (by simpa using he) h0,fun e2=>?_⟩
     exact absurd e2 (by simp at hk;omega)
    exact w'
def Ki (hn:l.Nodup){a:Int}(e:a<0\/(0<=a/\a.toNat∈l)):∃t d,t++d=l/\gC l c a=t++ [c]++d:=by rcases e with h| ⟨h0,h⟩;exact⟨l,[],by simp,by rw[Bs h];simp⟩;refine⟨l.take (l.idxOf a.toNat),l.drop (l.idxOf a.toNat),UX ..,?_⟩;have:=GA (c:=c) hn h;rw[this];congr 1;omega
def PA (hn:l.Nodup)(hc:c∉l){a:Int}(f:a<0\/(0<=a/\a.toNat∈l)):(gC l c a).Nodup/\ ∀j,j∈gC l c a↔j=c\/j∈l:=by obtain⟨t,d,rfl,e⟩:=Ki (c:=c) hn f;rw[e];constructor;rw[Vj]at hn⊢;simp only[TY,not_or]at hc;refine⟨Vj.2 ⟨hn.1,by simp,fun q hq r hr=>?_⟩,hn.2.1,fun q hq r hr=>?_⟩;rw[Uz.1 hr];rintro rfl;exact hc.1 hq;rcases TY.1 hq with h|h;exact hn.2.2 q h r hr;rw[Uz.1 h];rintro rfl;exact hc.2 hr;intro j;simp only[TY,Uz];constructor;rintro ((h|h)|h);exact .inr (.inl h);exact .inl h;exact .inr (.inr h);rintro (h|h|h);exact .inl (.inr h);exact .inl (.inl h);exact .inr h
def DM.opt_lo {a:Int}(h:D.opt x y=some a):a= -1\/0<=a:=by unfold DM.opt at h;split at h;cases h;exact .inl rfl;split at h;cases h;exact .inr (by omega);cases h
def DM.par_of (w:WF D K)(hs:D.L[c]? =some s)(d:s.used=true)(hp:s.n.par≠ -1):∃(p:Nat) (sp:Sl),s.n.par=p/\D.L[p]? =some sp/\sp.used=true/\c∈sp.n.ch/\p≠c/\sp.n.kind=1:=by rcases w.par c s hs d with e| ⟨p,sp,e,h1,h2,h3⟩;exact absurd e hp;obtain⟨r,_,hr⟩:=w.rank;have:=hr p sp h1 h2 c h3;refine⟨p,sp,e,h1,h2,h3,by rintro rfl;omega,?_⟩;obtain⟨k1,k2⟩:=w.kind p sp h1 h2;rcases k1 with h|h;exact h;rw[(k2 h).1]at h3;simp at h3
def WF.ins (w:WF D K)(e:K+1<=1000):WF (gW D i g j m x y).1 (K+1):=by
 have w':=w.mono (UI K) e;unfold gW;split
 ·rename_i p c a hp hc o;obtain⟨sp,h1,h2,_⟩:=Vm hp;obtain⟨sc,k1,k2,_⟩:=Vm hc;rw[Vp h1,Vp k1];split;exact w'
  ·split;exact w'
   ·split;exact w'
    ·rename_i r d t;rw[not_or]at d;have hr:sc.n.par= -1:=Classical.not_not.1 d.1;have hn:=(w.ch p sp h1 h2).1;have f:c∉sp.n.ch:=fun q=>by obtain⟨s,e1,e2,e3⟩:=(w.ch p sp h1 h2).2 c q;rw[k1]at e1;cases e1;omega
     have hs:=PA (c:=c) hn f (a:=a) (by rcases DM.opt_lo o with h|h;exact .inl (by omega);exact .inr ⟨h,Classical.not_not.1 fun h'=>t ⟨h,h'⟩⟩);exact w.kids e ⟨by omega,by omega⟩ h1 h2 k1 k2 (by rintro rfl;exact d.2 .here) (by simpa using r) hs.1 (fun j hj=>by rw[hs.2];simp[hj]) (.inl ⟨rfl,(hs.2 c).2 (.inl rfl)⟩) (.inl ⟨hr,fun _=>d.2⟩)
 exact w'
def WF.rem (w:WF D K)(d:K+1<=1000):WF (Bx D i g).1 (K+1):=by have w':=w.mono (UI K) d;unfold Bx;split;rename_i c hc;obtain⟨sc,k1,k2,_⟩:=Vm hc;rw[Vp k1];split;exact w';rename_i hp;obtain⟨p,sp,e,h1,h2,h3,h4,h5⟩:=DM.par_of w k1 k2 hp;rw[e,Uc,Vp h1];exact w.kids d ⟨by omega,by omega⟩ h1 h2 k1 k2 h4 h5 ((w.ch p sp h1 h2).1.filter _) (fun j hj=>by rw[Cd];simp[hj]) (.inr ⟨rfl,fun h=>(Cd.1 h).2 rfl⟩) (.inr e);exact w'
end
section
variable {D D':DM}{K a b c p k j:Nat}{s sp sc:Sl}{i g m x y:Int}{l:Ah}{n:Nod}
def DM.take_spec (w:WF D K)(r:K+1<=1000):∃(i g:Nat) (l:Ah),(D.take n).2=i/\(D.take n).1.free=l/\(D.take n).1.C=D.C/\(D.take n).1.L.length<=K+1/\(D.take n).1.L[i]? =some ⟨g,true,n⟩/\1<=g/\g<=K+1/\(∀j,j≠i->(D.take n).1.L[j]? =D.L[j]?)/\(∀s,D.L[i]? =some s->s.used=false)/\l.Nodup/\i∉l/\(∀j∈l,j∈D.free)/\(D.take n).1.L.countP (·.used)=D.L.countP (·.used)+1:=by
 have lim:=w.lim;obtain⟨o,q⟩:=w.free;unfold DM.take;by_cases e:D.free=[]
 ·have d:D.grow=⟨D.L++ [⟨1,false,D9 0 [] []⟩],[D.L.length],D.C⟩:=by unfold DM.grow;rw[TJ e]
  rw[d];simp only;have hi:(D.L++ [⟨1,false,D9 0 [] []⟩])[D.L.length]? =some (⟨1,false,D9 0 [] []⟩:Sl):=by simp
  refine⟨D.L.length,1,[],rfl,rfl,trivial,by simp;omega,by simp only[m9,if_true,hi];rfl,by omega,by omega,fun j hj=>?_,fun s hs=>?_,by simp,by simp,by simp,?_⟩;rw[m9,TH (Ne.symm hj)];by_cases h:j<D.L.length;rw[Tu h];rw[Vi (by simp;omega),Vi (by omega)];have:=(Tn.1 hs).1;omega;rw[lM hi rfl];simp
 ·have d:D.grow=D:=by unfold DM.grow;rw[TH e]
  rw[d];cases f:D.free with
  |nil=>exact absurd f e|cons i l=>rw[f]at o q;obtain⟨h1,h2⟩:=List.nodup_cons.1 o;obtain⟨s,h3,h4⟩:=q i List.mem_cons_self;have:=w.gen s (Tv h3);simp only;exact⟨i,s.g,l,rfl,rfl,trivial,by simp;omega,by simp only[m9,if_true,h3];rfl,this.1,this.2,fun j hj=>by rw[m9,TH (Ne.symm hj)],fun s' hs=>by rw[h3]at hs;cases hs;exact h4,h2,h1,fun j hj=>Ut _ hj,lM h3 h4⟩
def WF.cre (w:WF D K)(z:K+1<=1000){q:Int}(hq:q=1\/q=2){t x:Str}:WF (D7 D q t x).1 (K+1):=by
 have w':=w.mono (UI K) z;unfold D7;split;exact w';obtain⟨i,g,l,e1,e2,e3,e4,e5,B,M,v,E,F,G,H,A⟩:=DM.take_spec (n:=D9 q t x) w z;have u:(((D.take (D9 q t x)).1.cnt 0).cnt 1).L=(D.take (D9 q t x)).1.L:=rfl;have un:∀ {j:Nat} {s:Sl},D.L[j]? =some s->s.used=true->j≠i:=fun h1 h2 e=>by subst e;rw[E _ h1]at h2;cases h2
 have old:∀ {j:Nat} {s:Sl},(D.take (D9 q t x)).1.L[j]? =some s->(j=i/\s=⟨g,true,D9 q t x⟩)\/(j≠i/\D.L[j]? =some s):=fun{j s} h=>by by_cases e:j=i;subst e;rw[e5]at h;cases h;exact .inl ⟨rfl,rfl⟩;rw[v j e]at h;exact .inr ⟨e,h⟩
 show WF ((D.take (D9 q t x)).1.cnt 0|>.cnt 1) (K+1);refine⟨⟨e4,z⟩,fun s hs=>?_,fun j s hs o=>?_,fun j s hs o=>?_,?_,fun j s hs o=>?_,?_,fun j s hs o=>?_,?_,fun j hj=>?_⟩;obtain⟨j,hj⟩:=Vk hs;rcases old hj with⟨_,rfl⟩| ⟨_,h⟩;exact⟨B,by simp only;omega⟩;have:=w.gen s (Tv h);omega;rcases old hs with⟨_,rfl⟩| ⟨_,h⟩;exact .inl rfl;rcases w.par j s h o with e| ⟨p,sp,e,h1,h2,h3⟩;exact .inl e;exact .inr ⟨p,sp,e,by rw[u,v p (un h1 h2)];exact h1,h2,h3⟩;rcases old hs with⟨_,rfl⟩| ⟨_,h⟩;exact⟨List.nodup_nil,fun j hj=>by simp[D9]at hj⟩;refine⟨(w.ch j s h o).1,fun b hb=>?_⟩;obtain⟨J,h1,h2,h3⟩:=(w.ch j s h o).2 b hb;exact⟨J,by rw[u,v b (un h1 h2)];exact h1,h2,h3⟩;obtain⟨r,r1,I⟩:=w.rank;refine⟨r,fun i=>by have:=r1 i;omega,fun j s hs o b hb=>?_⟩;rcases old hs with⟨_,rfl⟩| ⟨_,h⟩;simp[D9]at hb;exact I j s h o b hb;rcases old hs with⟨_,rfl⟩| ⟨_,h⟩;exact⟨by simp[D9],by simp[D9],by simp[D9,Asc]⟩;exact w.atts j s h o;obtain⟨a,b,c,d,e,f,h,h1,h2,h3,h4⟩:=w.cnt;simp only[List.forall_mem_cons]at h4;obtain⟨N,O,P,Q,R,S,T,_⟩:=h4;refine⟨a+1,b,c,d,e,f,h,?_,?_,h3,?_⟩;show((D.take (D9 q t x)).1.C.modify 0 (· +1)).modify 1 (· +1)=_;rw[e3,h1,u,A];rfl;rw[u,A];omega;simp only[List.forall_mem_cons];refine⟨?_,?_,?_,?_,?_,?_,?_,fun _ h=>by simp at h⟩<;>omega;rcases old hs with⟨_,rfl⟩| ⟨_,h⟩;exact⟨hq,fun _=>⟨rfl,rfl⟩⟩;exact w.kind j s h o;show(D.take (D9 q t x)).1.free.Nodup;rw[e2];exact F;have hj:j∈(D.take (D9 q t x)).1.free:=hj;rw[e2]at hj;obtain⟨s,h1,h2⟩:=w.free.2 j (H j hj);exact⟨s,by rw[u,v j (by rintro rfl;exact G hj)];exact h1,h2⟩
def OQ (w:WF D K):∀(n:Nat) {r:Nat->Nat},(∀i,r i<=K)->(∀(i:Nat) s,D.L[i]? =some s->s.used=true-> ∀j∈s.n.ch,r i<r j)-> ∀ {c:Nat} {s:Sl},D.L[c]? =some s->s.used=true->K-r c<=n-> ∀(p:Nat) (sp:Sl),p∈bel D 1001 c->D.L[p]? =some sp-> ∀b∈sp.n.ch,b∈bel D 1001 c:=by
 intro n;induction n with
 |zero=>
  intro r r1 h c s hs f hn p sp hp d b hb;rw[cX w hs f]at hp⊢;cases e:s.n.ch with
  |nil=>
   rw[e]at hp;have:p=c:=by simpa using hp
   subst this;rw[hs]at d;cases d;rw[e]at hb;simp at hb
  |cons a l=>have:=h c s hs f a (by simp[e]);have:=r1 a;omega
 |succ n o=>intro r r1 h c s hs f hn p sp hp d b hb;rw[cX w hs f]at hp⊢;rcases TZ.1 hp with rfl|hp;rw[hs]at d;cases d;exact Ut _ (List.mem_flatMap.2 ⟨b,hb,iS⟩);obtain⟨j,hj,hp⟩:=List.mem_flatMap.1 hp;obtain⟨sj,k1,k2,_⟩:=(w.ch c s hs f).2 j hj;have:=h c s hs f j hj;have:=r1 j;exact Ut _ (List.mem_flatMap.2 ⟨j,hj,o r1 h k1 k2 (by omega) p sp hp d b hb⟩)
def sB (w:WF D K)(hs:D.L[c]? =some s)(d:s.used=true)(hb:∃s,D.L[b]? =some s/\s.used=true):b∈bel D 1001 c↔Abv D c b:=by
 refine⟨fun h=>(R9 w hs d b h).1,fun h=>?_⟩;obtain⟨r,r1,t⟩:=w.rank;induction h with
 |here=>exact iS|up b p s' h' hp k o=>
  obtain⟨u,h1,h2⟩:=hb;rw[h']at h1;cases h1;rcases w.par b s' h' h2 with e| ⟨q,f,e,k1,k2,k3⟩;omega
  ·have:q=p:=by omega
   subst this;exact OQ w _ r1 t hs d (TK _) q f (o ⟨f,k1,k2⟩) k1 b k3
def iW :∀ {X:Ah} {D:DM} {j:Nat} {s:Sl},X.Nodup->j∈X->D.L[j]? =some s->(X.foldl C0 D).L[j]? =some ⟨s.g+1,false,D9 0 [] []⟩
 |x::X,D,j,s,hn,h,hs=>by
  obtain⟨h1,h2⟩:=List.nodup_cons.1 hn;rw[List.foldl_cons];by_cases e:x=j;subst e;rw[I0 h1];unfold C0;simp only[m9];simp[hs]
  ·have hj:j∈X:=by rcases TZ.1 h with h|h;exact absurd h.symm e;exact h
   refine iW h2 hj ?_;unfold C0;simp only[m9];rw[TH e];exact hs
def iU :∀ {X:Ah} {D:DM},(X.foldl C0 D).free=X.reverse++D.free
 | [],_=>rfl|x::X,D=>by rw[List.foldl_cons,iU];simp[C0]
def xZ (w:WF D K)(hs:D.L[c]? =some s)(o:s.used=true)(hp:s.n.par= -1){sj:Sl}(h:D.L[j]? =some sj)(d:sj.used=true)(m:j∉bel D 1001 c):(∀(q:Nat) f,sj.n.par=q->D.L[q]? =some f->f.used=true->q∉bel D 1001 c)/\ ∀b∈sj.n.ch,b∉bel D 1001 c:=by
 refine⟨fun q f e h1 h2 t=>m ((sB w hs o ⟨sj,h,d⟩).2 (.up _ _ _ h e ((sB w hs o ⟨f,h1,h2⟩).1 t))),fun b hb r=>?_⟩;obtain⟨u,h1,h2,h3⟩:=(w.ch j sj h d).2 b hb;rcases((sB w hs o ⟨u,h1,h2⟩).1 r).inv with e| ⟨q,f,k1,k2,k3⟩;subst e;rw[hs]at h1;cases h1;omega
 ·rw[h1]at k1;cases k1;have:q=j:=by omega
  subst this;exact m ((sB w hs o ⟨sj,h,d⟩).2 k3)
def WF.fre (w:WF D K)(A:K+1<=1000):WF (pE D i g).1 (K+1):=by
 have w':=w.mono (UI K) A;unfold pE;cases hc:D.at i g with
 |none=>exact w'|some c=>
  obtain⟨s,hs,z,_⟩:=Vm hc;simp only;rw[Vp hs];split;exact w';rename_i hp;have hp:s.n.par= -1:=Classical.not_not.1 hp;have hn:=M8 (f:=1001) w hs z;have u:=fun b hb=>(R9 (f:=1001) w hs z b hb).2;have v:=fun{j:Nat} {sj:Sl}=>xZ (j:=j) (sj:=sj) w hs z hp;generalize bel D 1001 c=X at hn u v;have lim:=w.lim;have old:∀ {j:Nat} {s:Sl},(X.foldl C0 D).L[j]? =some s->s.used=true->j∉X/\D.L[j]? =some s:=fun{j s} h h'=>by by_cases m:j∈X;obtain⟨s',h1,_⟩:=u j m;rw[iW hn m h1]at h;cases h;cases h';rw[I0 m]at h;exact⟨m,h⟩
  have H:=eD hn u;refine⟨⟨by show(X.foldl C0 D).L.length<=K+1;rw[nE];omega,A⟩,fun s' t=>?_,fun j s' t o=>?_,fun j s' t o=>?_,?_,fun j s' t o=>?_,?_,fun j s' t o=>?_,?_,fun j hj=>?_⟩;obtain⟨j,hj⟩:=Vk t;have hj:(X.foldl C0 D).L[j]? =some s':=hj;by_cases m:j∈X;obtain⟨s1,h1,_⟩:=u j m;rw[iW hn m h1]at hj;cases hj;have:=w.gen s1 (Tv h1);simp only;omega;rw[I0 m]at hj;have:=w.gen s' (Tv hj);omega;obtain⟨m,h⟩:=old t o;rcases w.par j s' h o with e| ⟨q,B,e,h1,h2,h3⟩;exact .inl e;exact .inr ⟨q,B,e,(I0 ((v h o m).1 q B e h1 h2)).trans h1,h2,h3⟩;obtain⟨m,h⟩:=old t o;refine⟨(w.ch j s' h o).1,fun b hb=>?_⟩;obtain⟨G,h1,h2,h3⟩:=(w.ch j s' h o).2 b hb;exact⟨G,(I0 ((v h o m).2 b hb)).trans h1,h2,h3⟩;obtain⟨r,r1,F⟩:=w.rank;exact⟨r,fun i=>by have:=r1 i;omega,fun j s' t o b hb=>F j s' (old t o).2 o b hb⟩;exact w.atts j s' (old t o).2 o
  ·obtain⟨a,b,c,d,e,f,h,h1,h2,h3,h4⟩:=w.cnt;simp only[List.forall_mem_cons]at h4;obtain⟨I,J,M,N,O,P,Q,_⟩:=h4;refine⟨a,b+X.length,c,d,e,f,h,?_,?_,by omega,?_⟩
   ·show(D.C.modify 0 (· -(X.length:Int))).modify 2 (· +(X.length:Int))=_;rw[h1];show [((D.L.countP (·.used):Nat):Int)-X.length,a,b+X.length,c,d,e,f,h]=_;have:((D.L.countP (·.used):Nat):Int)-X.length=(((X.foldl C0 D).L.countP (·.used):Nat):Int):=by omega
    rw[this]
   ·show a=(((X.foldl C0 D).L.countP (·.used):Nat):Int)+(b+X.length)
    omega
   simp only[List.forall_mem_cons];refine⟨?_,?_,?_,?_,?_,?_,?_,fun _ h=>by simp at h⟩<;>omega
  exact w.kind j s' (old t o).2 o;show(X.foldl C0 D).free.Nodup;rw[iU];refine Vj.2 ⟨(by rw[List.Nodup,List.pairwise_reverse];exact hn.imp Ne.symm),w.free.1,fun a E b hb e=>?_⟩;subst e;obtain⟨s1,h1,h2⟩:=u a (List.mem_reverse.1 E);obtain⟨s2,k1,k2⟩:=w.free.2 a hb;rw[h1]at k1;cases k1;rw[h2]at k2;cases k2;have hj:j∈(X.foldl C0 D).free:=hj;rw[iU]at hj;by_cases m:j∈X;obtain⟨s1,h1,_⟩:=u j m;exact⟨_,iW hn m h1,rfl⟩;rcases TY.1 hj with h|h;exact absurd (List.mem_reverse.1 h) m;obtain⟨s2,k1,k2⟩:=w.free.2 j h;exact⟨s2,(I0 m).trans k1,k2⟩
