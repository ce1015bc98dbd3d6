/- The DOM: a slot is freed: plain lemmas.
  Conditions: none. -/
import Derived.Test.YtoegfalhkackeaaGreatI1
set_option linter.all false
noncomputable section
namespace Go.D
open Go Go.Xe Go.Sx
section
variable {D :DM}{S N:Sx.Rows}{fr lv i g:Int}{K c:Nat}{G:Nat->Nat}{T:List RS}{M:List RN}
def Kj (w:WF D K){r:Nat->Nat}(h1:∀i,r i<=K)(hr:∀(i:Nat) s,D.L[i]? =some s->s.used=true-> ∀j∈s.n.ch,r i<r j):∀(n:Nat) {c:Nat} {s:Sl},D.L[c]? =some s->s.used=true->K-r c<=n-> ∀f b,n<f->n<b->bel D f c=bel D b c:=by
 intro n;induction n with
 |zero=>
  intro c s hs d hn f b hf h;obtain⟨f,rfl⟩:∃k,f=k+1:=⟨f-1,by omega⟩
  obtain⟨b,rfl⟩:∃k,b=k+1:=⟨b-1,by omega⟩
  unfold bel;rw[Tj hs];cases e:s.n.ch with
  |nil=>rfl|cons a l=>have:=hr c s hs d a (by simp[e]);have:=h1 a;omega
 |succ n m=>
  intro c s hs d hn f b hf h;obtain⟨f,rfl⟩:∃k,f=k+1:=⟨f-1,by omega⟩
  obtain⟨b,rfl⟩:∃k,b=k+1:=⟨b-1,by omega⟩
  unfold bel;rw[Tj hs];congr 1;rw[List.flatMap_def,List.flatMap_def];congr 1;refine List.map_congr_left fun j hj=>?_;obtain⟨sj,k1,k2,_⟩:=(w.ch c s hs d).2 j hj;have:=hr c s hs d j hj;have:=h1 j;exact m k1 k2 (by omega) f b (by omega) (by omega)
def lR (w:WF D K){s:Sl}(hs:D.L[c]? =some s)(a:s.used=true):bel D 1001 c=c::s.n.ch.flatMap (bel D 1001):=by
 obtain⟨r,h1,hr⟩:=w.rank;have lim:=w.lim;rw[Kj w h1 hr K hs a (by omega) 1001 1002 (by omega) (by omega)]
 conv=>lhs;unfold bel
 rw[Tj hs]
def tO {L:List Sl}{q:Sl->Sl}(hq:∀s,(q s).used=false):∀ {c:Nat} {s:Sl},L[c]? =some s->s.used=true->(L.modify c q).countP (·.used)+1=L.countP (·.used):=by
 induction L with
 |nil=>intro c s h;simp at h
 |cons a L d=>
  intro c s h b;cases c with
  |zero=>simp at h;subst h;simp[List.countP_cons,b,hq]|succ c=>simp at h;have:=d h b;simp[List.countP_cons];omega
def RlT.lose (h:RlT G D T M fr lv){s:Sl}(hs:D.L[c]? =some s)(n:s.used=true):RlT G (B8 D c) (T.modify c fun r=>⟨r.g+1,false,fr, -1⟩) M (c+1) (lv-1):=by
 obtain⟨r,hr,hg,l,_⟩:=h.row c s hs;have hc:c∉D.free:=fun m=>by obtain⟨u,k1,k2⟩:=h.free.unused c m;rw[hr]at k1;cases k1;rw[l,n]at k2;cases k2
 have get:∀j,(B8 D c).L[j]? =if c=j then D.L[j]?.map (fun s=>⟨s.g+1,false,K5 0 [] []⟩)else D.L[j]? :=fun j=>v7 ..
 refine⟨by unfold B8;simpa using h.len,fun j sj hj=>?_,fun a b t rb d hb o p e=>?_,⟨rfl,⟨r.g+1,false,fr, -1⟩,by rw[v7,Rh rfl,hr];rfl,rfl,h.free.mod hc⟩,List.nodup_cons.2 ⟨hc,h.nodup⟩,fun j sj hj hn=>?_,?_⟩;rw[get]at hj;simp only[v7];by_cases e:c=j;subst e;rw[Rh rfl,hs]at hj;cases hj;exact⟨⟨r.g+1,false,fr, -1⟩,by rw[Rh rfl,hr];rfl,by simp[hg],rfl,fun h=>by simp at h⟩;rw[Re e]at hj⊢;exact h.row j sj hj;simp only[v7]at d hb;by_cases f:c=a;rw[Rh f]at d;subst f;rw[hr]at d;cases d;simp at o;by_cases k:c=b;rw[Rh k]at hb;subst k;rw[hr]at hb;cases hb;simp at p;rw[Re f]at d;rw[Re k]at hb;exact h.inj a b t rb d hb o p e;rw[get]at hj;by_cases e:c=j;subst e;exact List.mem_cons_self;rw[Re e]at hj;exact RV _ (h.all j sj hj hn);rw[h.lv];have:=tO (q:=fun s=>⟨s.g+1,false,K5 0 [] []⟩) (fun _=>rfl) hs n;unfold B8;simp only;omega
end
section
variable {D :DM}{S N S' N' S'' N'':Sx.Rows}{fr lv i g:Int}{K a b c:Nat}{G:Nat->Nat}{T:List RS}{M:List RN}{X Y:Ah}
def Fr.trans (h:Fr S N S' N')(h':Fr S' N' S'' N''):Fr S N S'' N'':=by obtain⟨h1,h2,h3⟩:=h;obtain⟨k1,k2,k3⟩:=h';refine⟨by omega,fun k hk hn=>?_,fun i hi d=>?_⟩;rw[k2 k (by omega) fun j hj d e=>?_,h2 k hk hn];rcases h3 j hj d with⟨q,f,l,m⟩|h;exact hn q f l (m.trans e);omega;rcases k3 i hi d with⟨q,f,l,m⟩|h;rcases h3 q f l with⟨p,p1,p2,n⟩|h;exact .inl ⟨p,p1,p2,n.trans m⟩;exact .inr (by omega);exact .inr (by omega)
def J0 :∀ {X:Ah} {D:DM} {j:Nat},j∉X->(X.foldl B8 D).L[j]? =D.L[j]?
 | [],_,_,_=>rfl|x::X,D,j,h=>by rw[List.foldl_cons,J0 (fun m=>h (RV _ m))];unfold B8;simp only[v7];rw[Re (show¬x=j from fun e=>h (by simp[e]))]
def sM :∀ {X:Ah} {D:DM},(X.foldl B8 D).L.length=D.L.length
 | [],_=>rfl|x::X,D=>by rw[List.foldl_cons,sM];unfold B8;simp
def dJ :∀ {Y:Ah} {D:DM},Y.Nodup->(∀b∈Y,∃s,D.L[b]? =some s/\s.used=true)->(Y.foldl B8 D).L.countP (·.used)+Y.length=D.L.countP (·.used)
 | [],_,_,_=>rfl|y::Y,D,hn,h=>by
  obtain⟨hy,hn⟩:=List.nodup_cons.1 hn;obtain⟨s,h1,h2⟩:=h y List.mem_cons_self;rw[List.foldl_cons];have:=dJ (D:=B8 D y) hn fun b hb=>by obtain⟨s,k1,k2⟩:=h b (RV _ hb);refine⟨s,?_,k2⟩;unfold B8;simp only[v7];rw[Re (show¬y=b from fun e=>hy (by rw[e];exact hb))];exact k1
  have k:=tO (q:=fun s=>⟨s.g+1,false,K5 0 [] []⟩) (fun _=>rfl) h1 h2;have:(B8 D y).L.countP (·.used)+1=D.L.countP (·.used):=k;rw[RC];omega
def Abv.top {p:Nat}{s:Sl}(h:D.L[a]? =some s)(hp:s.n.par=p)(k:Abv D a b):Abv D p b:=by
 induction k with
 |here=>exact .up _ _ _ h hp .here|up b q s' h' hq _ d=>exact .up _ _ _ h' hq d
def Abv.lin (h:Abv D a b)(k:Abv D c b):Abv D a c\/Abv D c a:=by
 induction h with
 |here=>exact .inr k|up b p s h' hp k' d=>
  cases k with
  |here=>exact .inl (.up _ _ _ h' hp k')|up _ p' s' h2 hp' k2=>
   rw[h']at h2;cases h2;have:p=p':=by omega
   subst this;exact d k2
def Abv.rank (w:WF D K){r:Nat->Nat}(hr:∀(i:Nat) s,D.L[i]? =some s->s.used=true-> ∀j∈s.n.ch,r i<r j)(h:Abv D a b):(∃s,D.L[b]? =some s/\s.used=true)->r a<=r b/\ ∃s,D.L[a]? =some s/\s.used=true:=by
 induction h with
 |here=>exact fun h=>⟨Ri _,h⟩
 |up b p s h hp k f=>
  rintro ⟨s',h1,h2⟩;rw[h]at h1;cases h1;rcases w.par b s h h2 with e| ⟨q,d,e,k1,k2,k3⟩;omega
  ·have:p=q:=by omega
   subst this;have:=hr p d k1 k2 b k3;have:=f ⟨d,k1,k2⟩;exact⟨by omega,this.2⟩
def X6 (w:WF D K):∀ {f c:Nat} {s:Sl},D.L[c]? =some s->s.used=true-> ∀b∈bel D f c,Abv D c b/\ ∃s,D.L[b]? =some s/\s.used=true
 |0,c,s,hs,d,b,hb=>by rw[Se.1 hb];exact⟨.here,s,hs,d⟩|f+1,c,s,hs,d,b,hb=>by unfold bel at hb;rw[Tj hs]at hb;rcases Rx.1 hb with rfl|hb;exact⟨.here,s,hs,d⟩;obtain⟨j,hj,hb⟩:=List.mem_flatMap.1 hb;obtain⟨sj,k1,k2,k3⟩:=(w.ch c s hs d).2 j hj;obtain⟨e,h⟩:=X6 w k1 k2 b hb;exact⟨e.top k1 k3,h⟩
def R9 (w:WF D K):∀ {f c:Nat} {s:Sl},D.L[c]? =some s->s.used=true->(bel D f c).Nodup
 |0,c,s,hs,k=>by unfold bel;simp|f+1,c,s,hs,k=>by
  obtain⟨r,_,hr⟩:=w.rank;obtain⟨hn,hc⟩:=w.ch c s hs k;unfold bel;rw[Tj hs];refine List.nodup_cons.2 ⟨fun m=>?_,List.pairwise_flatMap.2 ⟨fun j hj=>?_,?_⟩⟩;obtain⟨j,hj,hb⟩:=List.mem_flatMap.1 m;obtain⟨sj,k1,k2,k3⟩:=hc j hj;have:=((X6 w k1 k2 c hb).1.rank w hr ⟨s,hs,k⟩).1;have:=hr c s hs k j hj;omega;obtain⟨sj,k1,k2,k3⟩:=hc j hj;exact R9 w k1 k2
  ·refine List.Pairwise.imp_of_mem (fun{x y} hx hy d=>?_) hn;obtain⟨sx,k1,k2,k3⟩:=hc x hx;obtain⟨l,u,z,A⟩:=hc y hy;rintro p hp q hq rfl;obtain⟨a1,E⟩:=X6 w k1 k2 p hp;obtain⟨a2,_⟩:=X6 w u z p hq;have no:∀ {x y:Nat} {l:Sl},x∈s.n.ch->y∈s.n.ch->x≠y->D.L[y]? =some l->l.n.par=c->Abv D x y->False:=fun{x y l} hx hy d o hp h=>by
    rcases h.inv with e| ⟨p,B,t,C,v⟩;exact d e
    ·rw[o]at t;cases t;have:p=c:=by omega
     subst this;have:=(v.rank w hr ⟨s,hs,k⟩).1;have:=hr p s hs k x hx;omega
   rcases a1.lin a2 with h|h;exact no hx hy d u A h;exact no hy hx (Ne.symm d) k1 k3 h
def aN (S:Sx.Rows):Nat:=S.countP fun r=>(r.getD 1 (.int 0)).toBool
def Rl.uses (h:Rl G D S N fr lv):aN S=D.L.countP (·.used)/\lv=aN S:=by
 obtain⟨T,M,rfl,rfl,h⟩:=h;have e:aN (T.map RS.row)=D.L.countP (·.used):=by unfold aN;rw[List.countP_map,<-h.count];rfl
 exact⟨e,by rw[e];exact h.lv⟩
def frS (S:Sx.Rows)(i fr:Int)(g:Int):Sx.Rows:=i7 (i7 (i7 (i7 S i 1 (.bool false)) i 3 (.int (-1))) i 0 (.int g)) i 2 (.int fr)
def Rl.lose (h:Rl G D S N fr lv)(hk:D.at i g=some c):Rl G (B8 D c) (frS S i fr (g+1)) N (i+1) (lv+ -1)/\Fr S N (frS S i fr (g+1)) N:=by
 obtain⟨T,M,rfl,rfl,h⟩:=h;obtain⟨s,r,k1,k2,k3,m,d,o,q,t⟩:=h.at_ hk;subst k1;obtain⟨l,k,n,_⟩:=h.row c s k2;rw[d]at k;cases k;have e:frS (T.map RS.row) c fr (g+1)=(T.modify c fun r=>⟨r.g+1,false,fr, -1⟩).map RS.row:=by unfold frS;rw[T7 (fun r:RS=> {r with u:=false}) (fun _=>rfl),T7 (fun r:RS=> {r with p:= -1}) (fun _=>rfl),T7 (fun r:RS=> {r with g:=g+1}) (fun _=>rfl),T7 (fun r:RS=> {r with nx:=fr}) (fun _=>rfl),RA,L5,L5,L5];congr 1;apply List.ext_getElem?;intro j;simp only[v7];by_cases e:c=j;subst e;simp[d,n,m];simp[e]
 rw[e];refine⟨⟨_,M,rfl,rfl,h.lose k2 k3⟩,?_⟩;have:=OQ (N:=M.map RN.row) (T:=T) (T':=T.modify c fun r=>⟨r.g+1,false,fr, -1⟩) (X:=[]) fun j l hj f=>by simp only[v7]at hj;by_cases e:c=j;rw[Rh e]at hj;subst e;rw[d]at hj;cases hj;simp at f;rw[Re e]at hj;exact .inl ⟨l,hj,f,rfl⟩
 simpa using this
def Im :B8 (X.foldl B8 D) c=(X++ [c]).foldl B8 D:=by rw[List.foldl_append];rfl
def RlX.at_ (hk:D.at i g=some c)(hc:c∉X):(X.foldl B8 D).at i g=some c:=by
 obtain⟨s,h1,h2,rfl,rfl⟩:=Th hk;have e:(X.foldl B8 D).L[c]? =some s:=by rw[J0 hc];exact h1
 have:=DM.at_of e h2;rwa[Ti e]at this
def RlX.lose (h:RlX D X S N fr lv)(hk:D.at i g=some c)(hc:c∉X):RlX D (X++ [c]) (frS S i fr (g+1)) N (i+1) (lv+ -1)/\Fr S N (frS S i fr (g+1)) N:=by have:=Rl.lose h (RlX.at_ hk hc);unfold RlX;rw[<-Im];exact this
def RlX.slen (h:RlX D X S N fr lv)(w:WF D K):S.length<=1000:=by obtain⟨T,M,rfl,rfl,h⟩:=h;rw[Rc,h.len,sM];have:=w.lim;omega
def RlX.kids (h:RlX D X S N fr lv)(hk:D.at i g=some c)(hc:c∉X):∃s,D.L[c]? =some s/\s.used=true/\cL N (cI S i 3) 9=s.n.ch.map (F5 D.gen)/\0<=cI S i 3/\cI S i 3<N.length/\cB S i 1=true/\cI S i 0=g/\0<=i/\i<S.length:=by have d:=RlX.at_ (X:=X) hk hc;obtain⟨s,h1,h2,h3,h4,e,f,j,k⟩:=Rl.spot h d;obtain⟨_,_,_,hi,_⟩:=Th hk;subst hi;have hv:=(Rl.vld h).2 ⟨c,d⟩;unfold G6 at hv;simp only[QJ,Rg]at hv;rw[J0 hc]at h1;rw[e];exact⟨s,h1,h2,by unfold cL;rw[k];rfl,f,j,h4,hv.2,by omega,by omega⟩
def RlX.count {d e:Int}(h:RlX D X S N fr lv)(h':RlX D (X++Y) S' N' d e)(hn:Y.Nodup)(f:∀b∈Y,b∉X/\ ∃s,D.L[b]? =some s/\s.used=true):aN S'+Y.length=aN S:=by rw[h.uses.1,h'.uses.1,List.foldl_append];exact dJ hn fun b hb=>by obtain⟨h1,s,h2,h3⟩:=f b hb;exact⟨s,by rw[J0 h1];exact h2,h3⟩
