/- The DOM: a new node: the condition holds.
  Conditions: none. -/
import Derived.Test.YtoegfalhkackeaaGreatB13
set_option linter.all false
noncomputable section
namespace Go.D
open Go Go.Xe Go.Sx
section
variable {D D':DM}{S N S' N' st:Sx.Rows}{fr lv i g x y c0 c1 c2 c3 c4 c5 c6 c7:Int}{K c k:Nat}{G G':Nat->Nat}{T T':List RS}{M:List RN}{cs:Ak}
def WF.rn_eq (w:WF D K){s:Sl}(h:D.L[c]? =some s)(b:s.used=true)(a:∀(j:Nat) s,D.L[j]? =some s->s.used=true->G j=G' j):s.n.rn G=s.n.rn G':=by
 unfold Nod.rn;have e1:hG' G s.n.par=hG' G' s.n.par:=by unfold hG';rcases w.par c s h b with e| ⟨p,sp,e,h1,h2,_⟩;rw[e];rfl;rw[e,TH (by omega),TH (by omega),Uc,a p sp h1 h2]
 have e2:s.n.ch.map (z9 G)=s.n.ch.map (z9 G'):=List.map_congr_left fun j hj=>by obtain⟨sj,h1,h2,_⟩:=(w.ch c s h b).2 j hj;unfold z9;rw[a j sj h1 h2]
 rw[e1,e2]
def RlT.regen (h:RlT G D T M fr lv)(b:∀(c:Nat) s,D.L[c]? =some s->s.used=true->s.n.rn G=s.n.rn G'):RlT G' D T M fr lv:=
 ⟨h.len,fun i s hs=>by obtain⟨r,h1,h2,h3,h4⟩:=h.row i s hs;exact⟨r,h1,h2,h3,fun a=>by rw[<-b i s hs a];exact h4 a⟩,h.inj,h.free,h.nodup,h.all,h.lv⟩
def Ch.mod {q:RS->RS}{j:Nat}:∀ {l:Ah} {fr:Int},Ch T fr l->j∉l->Ch (T.modify j q) fr l
 | [],_,h,_=>h|a::l,_,⟨h1,r,h2,h3,h4⟩,hn=>by have e:j≠a:=fun e=>hn (by simp[e]);exact⟨h1,r,by rw[m9,TH e];exact h2,h3,h4.mod fun m=>hn (by simp[m])⟩
def Ch.unused :∀ {l:Ah} {fr:Int},Ch T fr l-> ∀j∈l,∃r,T[j]? =some r/\r.u=false
 | [],_,_,j,h=>by simp at h|a::l,_,⟨h1,r,h2,h3,h4⟩,j,h=>by rcases TZ.1 h with rfl|h;exact⟨r,h2,h3⟩;exact h4.unused j h
variable {n:Nod}
def lM {L:List Sl}:∀ {c:Nat} {s:Sl},L[c]? =some s->s.used=false->(L.modify c fun s=>⟨s.g,true,n⟩).countP (·.used)=L.countP (·.used)+1:=by
 induction L with
 |nil=>intro c s h;simp at h
 |cons a L d=>
  intro c s h b;cases c with
  |zero=>simp at h;subst h;simp[List.countP_cons,b]|succ c=>simp at h;simp[List.countP_cons,d h b];omega
variable {C:Ak}
def RlT.take {i:Nat}{l:Ah}(h:RlT G D T M fr lv)(hf:D.free=i::l){r:RS}(hr:T[i]? =some r):RlT G ⟨D.L.modify i fun s=>⟨s.g,true,n⟩,l,C⟩ (T.modify i fun r=>⟨r.g,true,0,M.length⟩) (M++ [n.rn G]) r.nx (lv+1):=by
 have o:=h.free;rw[hf]at o;obtain⟨_,H,q,v,hl⟩:=o;rw[hr]at q;cases q;have d:=h.nodup;rw[hf]at d;obtain⟨hi,d⟩:=List.nodup_cons.1 d;obtain⟨s,hs,hg,t,_⟩:=h.back hr;have old:∀j:Nat,∀rj,T[j]? =some rj->rj.u=true->rj.p<M.length:=fun j rj h1 h2=>by obtain⟨sj,k1,k2,k3,k4⟩:=h.back h1;obtain⟨F,E⟩:=k4 (by rw[<-k3];exact h2);have:=(Tn.1 E).1;omega
 refine⟨by simpa using h.len,fun j sj hj=>?_,fun a b z rb f hb A B e=>?_,hl.mod hi,d,fun j sj hj hn=>?_,?_⟩;simp only[m9]at hj⊢;by_cases e:i=j;subst e;rw[TJ rfl,hs]at hj;cases hj;exact⟨⟨r.g,true,0,M.length⟩,by rw[TJ rfl,hr];rfl,hg,rfl,fun _=>⟨by simp,by simp⟩⟩;rw[TH e]at hj⊢;obtain⟨rj,h1,h2,h3,h4⟩:=h.row j sj hj;refine⟨rj,h1,h2,h3,fun t=>?_⟩;obtain⟨h5,w⟩:=h4 t;exact⟨h5,by rw[Tu (Tn.1 w).1];exact w⟩;simp only[m9]at f hb;by_cases e1:i=a<;>by_cases e2:i=b;omega;rw[TJ e1]at f;rw[TH e2]at hb;subst e1;rw[hr]at f;cases f;have:=old b rb hb B;simp only at e;omega;rw[TH e1]at f;rw[TJ e2]at hb;subst e2;rw[hr]at hb;cases hb;have:=old a z f A;simp only at e;omega;rw[TH e1]at f;rw[TH e2]at hb;exact h.inj a b z rb f hb A B e;simp only[m9]at hj;by_cases e:i=j;subst e;rw[TJ rfl,hs]at hj;cases hj;simp at hn;rw[TH e]at hj;have:=h.all j sj hj hn;rw[hf]at this;rcases TZ.1 this with e'|m;exact absurd e'.symm e;exact m;rw[h.lv];have:=lM (n:=n) hs (by rw[<-t];exact v);simp only[this];omega
def RlT.grow (h:RlT G D T M fr lv)(hf:D.free=[]):RlT G ⟨D.L++ [⟨1,false,n⟩],[D.L.length],C⟩ (T++ [⟨1,false,0, -1⟩]) M (D.L.length+1) lv:=by
 have get:∀(j:Nat) s,(D.L++ [⟨1,false,n⟩])[j]? =some s->D.L[j]? =some s\/(j=D.L.length/\s=⟨1,false,n⟩):=fun j s hj=>by
  by_cases e:j<D.L.length;rw[Tu e]at hj;exact .inl hj
  ·rw[Tt (by omega)]at hj;have:j-D.L.length=0:=by by_cases z:j-D.L.length=0;exact z;rw[Vi (by simp;omega)]at hj;cases hj
   rw[this]at hj;cases hj;exact .inr ⟨by omega,rfl⟩
 have d:∀(j:Nat) r,(T++ [⟨1,false,0, -1⟩])[j]? =some r->r.u=true->T[j]? =some r:=fun j r hj p=>by
  by_cases e:j<T.length;rw[Tu e]at hj;exact hj
  ·rw[Tt (by omega)]at hj;have:j-T.length=0:=by by_cases z:j-T.length=0;exact z;rw[Vi (by simp;omega)]at hj;cases hj
   rw[this]at hj;cases hj;simp at p
 refine⟨by simpa using h.len,fun j s hj=>?_,fun a b f rb o hb l m e=>h.inj a b f rb (d a f o l) (d b rb hb m) l m e,⟨rfl,⟨1,false,0, -1⟩,?_,rfl,rfl⟩,by simp,fun j s hj hn=>?_,?_⟩;rcases get j s hj with hj| ⟨rfl,rfl⟩;obtain⟨r,h1,h2⟩:=h.row j s hj;exact⟨r,by rw[Tu (Tn.1 h1).1];exact h1,h2⟩;exact⟨⟨1,false,0, -1⟩,by rw[<-h.len];simp,rfl,rfl,fun h=>by simp at h⟩;rw[<-h.len];simp;rcases get j s hj with hj| ⟨rfl,rfl⟩;have:=h.all j s hj hn;rw[hf]at this;simp at this;simp;rw[h.lv];simp[List.countP_append]
def QD {X:Sx.Rows}(h:∀(j:Nat) a,T'[j]? =some a->a.u=true->(∃r,T[j]? =some r/\r.u=true/\r.p=a.p)\/(N.length:Int)<=a.p):Fr (T.map RS.row) N (T'.map RS.row) (N++X):=by
 refine⟨by simp,fun k hk _=>Tu hk,fun j hj d=>?_⟩;rw[TG]at hj;have b:T'[((j:Nat):Int).toNat]? =some (T'[j]'hj):=by rw[Uc];exact Tx hj
 simp only[cB,cI]at d⊢;rw[i9 b]at d⊢;rcases h j _ (Tx hj) d with⟨r,h1,h2,h3⟩|h1
 ·have hr:T[((j:Nat):Int).toNat]? =some r:=by rw[Uc];exact h1
  refine .inl ⟨j,by rw[TG];exact(Tn.1 h1).1,?_,?_⟩;rw[i9 hr];exact h2;rw[i9 hr];exact h3
 exact .inr h1
end
section
variable {D D':DM}{S N S' N' st S1:Sx.Rows}{fr lv i g x y fr1:Int}{K c k:Nat}{G G':Nat->Nat}{T T':List RS}{M:List RN}{cs:Ak}{n:Nod}
def DM.grow_get {j:Nat}{s:Sl}(h:D.L[j]? =some s):D.grow.L[j]? =some s:=by unfold DM.grow;split;rw[Tu (Tn.1 h).1];exact h;exact h
def DM.grow_old {j:Nat}{s:Sl}(h:D.grow.L[j]? =some s)(a:s.used=true):D.L[j]? =some s:=by unfold DM.grow at h;split at h;by_cases e:j<D.L.length;rw[Tu e]at h;exact h;rw[Tt (by omega)]at h;have:=Tv h;simp at this;rw[this]at a;simp at a;exact h
def Rl.take (h:Rl D.gen D S N fr lv)(w:WF D K)(h1:(fr=0/\S1=S++yC/\fr1=ln S+1)\/(fr≠0/\S1=S/\fr1=fr))(hn:n.par= -1/\n.ch=[]):∃i:Nat,fr1=i+1/\(D.take n).2=i/\i<S1.length/\cI S1 i 0=(D.take n).1.gen i/\i<=1000/\S1.length<=1001/\(D.take n).1.C=D.C/\Rl (D.take n).1.gen (D.take n).1 (i6 (i6 (i6 S1 i 2 (.int 0)) i 1 (.bool true)) i 3 (.int (ln N))) (N++ [(n.rn D.gen).row]) (cI S1 i 2) (lv+1)/\Fr S N (i6 (i6 (i6 S1 i 2 (.int 0)) i 1 (.bool true)) i 3 (.int (ln N))) (N++ [(n.rn D.gen).row]):=by
 obtain⟨T,M,rfl,rfl,o⟩:=h;have hl:=o.len;have lim:=w.lim;have b:∃T1 i l,S1=T1.map RS.row/\RlT D.gen D.grow T1 M fr1 lv/\D.grow.free=i::l/\(∀(j:Nat) r,T1[j]? =some r->r.u=true->T[j]? =some r)/\T1.length<=1001:=by
  rcases h1 with⟨rfl,rfl,rfl⟩| ⟨h0,rfl,rfl⟩
  ·have hf:D.free=[]:=by
    have:=o.free;cases e:D.free with
    |nil=>rfl|cons a l=>rw[e]at this;have:=this.1;omega
   have hg:=o.grow hf (n:=D9 0 [] []) (C:=D.C);refine⟨T++ [⟨1,false,0, -1⟩],D.L.length,[],by simp[yC,RS.row,d8],?_,by unfold DM.grow;rw[TJ hf],fun j r hj H=>?_,by simp;omega⟩
   ·have e1:ln (T.map RS.row)=(D.L.length:Int):=by simp[ln,hl]
    unfold DM.grow;rw[TJ hf,e1];exact hg
   by_cases e:j<T.length;rw[Tu e]at hj;exact hj;rw[Tt (by omega)]at hj;have:=Tv hj;simp at this;rw[this]at H;simp at H
  ·cases e:D.free with
   |nil=>have:=o.free;rw[e]at this;exact absurd this h0|cons a l=>
    have hg:D.grow=D:=by unfold DM.grow;rw[TH (by simp[e])]
    exact⟨T,a,l,rfl,by rw[hg];exact o,by rw[hg];exact e,fun _ _ h _=>h,by omega⟩
 obtain⟨T1,i,l,rfl,d,hf,z,v⟩:=b;have q:=d.free;rw[hf]at q;obtain⟨O,r,hr,H,_⟩:=q;have hk:=d.take (C:=D.C) (n:=n) hf hr;have hi:=(Tn.1 hr).1;have m:D.take n=(⟨D.grow.L.modify i fun s=>⟨s.g,true,n⟩,l,D.C⟩,i):=by unfold DM.take;rw[hf]
 have t:∀(j:Nat) s,D.L[j]? =some s->D.gen j=(D.take n).1.gen j:=by intro j s hj;rw[Vo hj,m];unfold DM.gen;simp only[m9,DM.grow_get hj];by_cases e:i=j<;>simp[e]
 have A:T1[((i:Nat):Int).toNat]? =some r:=by rw[Uc];exact hr
 obtain⟨s,hs,F,f,_⟩:=d.back hr;have I:i6 (i6 (i6 (T1.map RS.row) i 2 (.int 0)) i 1 (.bool true)) i 3 (.int (ln (M.map RN.row)))=(T1.modify i fun r=>⟨r.g,true,0,M.length⟩).map RS.row:=by rw[V7 (fun r:RS=> {r with nx:=0}) (fun _=>rfl),V7 (fun r:RS=> {r with u:=true}) (fun _=>rfl),V7 (fun r:RS=> {r with p:=(M.length:Int)}) (fun a=>by simp[RS.row,ln]),Uc,N8,N8]
 refine⟨i,by omega,by rw[m],by rw[TG];exact hi,?_,by omega,by rw[TG];exact v,by rw[m],?_,?_⟩;simp only[cI];rw[i9 A,m];unfold DM.gen;simp only[m9,hs];simp[RS.row,Dat.toInt,F]
 ·rw[I];have E:cI (T1.map RS.row) i 2=r.nx:=by simp only[cI];rw[i9 A];rfl
  rw[E];refine⟨_,M++ [n.rn D.gen],rfl,by simp,?_⟩;have:=hk.regen (G':=(D.take n).1.gen) fun c s hc f=>?_;rw[show(D.take n).1=⟨D.grow.L.modify i fun s=>⟨s.g,true,n⟩,l,D.C⟩ by rw[m]]at this⊢;exact this;simp only[m9]at hc;by_cases e:i=c;subst e;rw[TJ rfl,hs]at hc;cases hc;unfold Nod.rn;simp only[hn.1,hn.2];rfl;rw[TH e]at hc;exact w.rn_eq (DM.grow_old hc f) f fun j s h _=>t j s h
 rw[I];refine QD fun j J hj B=>?_;simp only[m9]at hj;by_cases e:i=j;subst e;rw[TJ rfl,hr]at hj;cases hj;exact .inr (by simp);rw[TH e]at hj;exact .inl ⟨J,z j J hj B,B,rfl⟩
