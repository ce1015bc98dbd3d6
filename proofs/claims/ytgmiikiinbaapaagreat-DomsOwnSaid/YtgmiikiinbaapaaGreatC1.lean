/- The DOM: a new node: model and contract (create).
  Conditions: none. -/
import Derived.Test.YtgmiikiinbaapaaGreatB13
set_option maxRecDepth 100000
set_option linter.all false
noncomputable section
namespace Go.D
open Go Go.Xe Go.Sx
def C2 (k:Int)(t x:Str):Nod:=⟨k,t,[],x,0,0,false, -1,[]⟩
def DM.grow (D:DM):DM:=if D.free=[]then⟨D.L++ [⟨1,false,C2 0 [] []⟩],[D.L.length],D.C⟩else D
def DM.take (D:DM)(n:Nod):DM×Nat:=match D.grow.free with
 |i::l=>(⟨D.grow.L.modify i fun s=>⟨s.g,true,n⟩,l,D.C⟩,i)
 | []=>(D,0)
def P2 (D:DM)(k:Int)(t x:Str):DM×Int×Int×Int:=if(k=1/\B1 t=false)\/(k=2/\I0 x=false)then(D,0,0,1)else
 let r:=D.take (C2 k t x)
 ((r.1.cnt 0).cnt 1,r.2,r.1.gen r.2,0)
def zK :Ar->Prop
 | [.int k,.str t,.str y,.lst at',.str x,.lst ch,.lst S,.int fr,.int lv,.int a,.int b,.int c,.int d,.int e,.int f,.int h,.int m,.lst _,.lst N]=>y=[]/\at'= []/\ch=[]/\((k=1/\x=[])\/(k=2/\t=[]))/\pJ S N fr lv [a,b,c,d,e,f,h,m]|_=>False
def eI :Ar->Ar->Prop
 | [.int k,.str t,.str y,.lst at',.str x,.lst ch,.lst S,.int fr,.int lv,.int a,.int b,.int c,.int d,.int e,.int f,.int h,.int m,.lst _,.lst N],[.int i,.int g,.int r,.lst S',.int fr',.int lv',.int a',.int b',.int c',.int d',.int e',.int f',.int h',.int m',.lst _,.lst N']=>
  X0 S N fr lv [a,b,c,d,e,f,h,m] S' N' fr' lv' [a',b',c',d',e',f',h',m'] fun D=>((P2 D k t x).1,(i,g,r)=(P2 D k t x).2)
 |_,_=>False
def cCre:=mkD "cre" [nV] zK [hV,iV] eI
def Np :Ay->List (Nat×(Fm->SS->G5)):=T9
def OV :Nat->List (Ay×Con)
 |_=>[(60,cChk),(LVn,cYes "lives")]
def OM :Nat->Aw->E7:=T5
open Go Go.Xe Go.Sx
def xF :Sx.Rows:=(b8 4 1 [(.int (1)),(.bool false),(.int (0)),(.int (-1))])
def vcCre :Prop:=
 ∀h i s t j u a b c d f k l m o p q r g,zK (.int h::.str i::.str s::.lst t::.str j::.lst u::JD a b c d f k l m o p q r g)->Cg eG R4 [.int h,.str i,.str s,.lst t,.str j,.lst u] (fun R=>∀v,R [.int v]->((v=0->((b=0->((ln a=1048576->Nq (ln a) (Nd (eI (.int h::.str i::.str s::.lst t::.str j::.lst u::JD a b c d f k l m o p q r g) (.int 0::.int 0::.int 3::JD a b c d f k l m o p q r (g++b8 10 1 [.int h,.str i,.lst [],.str j,.int 0,.int 0,.bool false,.int 0,.int 0,.lst []]))) True))/\(¬ln a=1048576->Nd (b=0) (Ni (ln a)<|Nd (ln a+1<67108865)<|Nr (ln a)<|Nd (I64 (ln a))<|Nb (ln a) (ln a+1)<|Nd (ln a<ln a+1)<|Nd (ln a<ln a+1)<|Nd (ln a<ln a+1)<|Nd (ln a<ln a+1)<|Nd (I64 (c+1))<|Nd (ln a<ln a+1)<|Nd (I64 (d+1))<|Nd (I64 (f+1))<|Nq (ln a+1)<|Nd (eI (.int h::.str i::.str s::.lst t::.str j::.lst u::JD a b c d f k l m o p q r g) (.int (IntKind.wrap .u32 (ln a))::.int (cI (a++xF) (ln a) 0)::.int 0::.lst (a8 (a8 (a8 (a++xF) (ln a) 2 (.int 0)) (ln a) 1 (.bool true)) (ln a) 3 (.int (ln g)))::J10 (cI (a++xF) (ln a) 2) (c+1) (d+1) (f+1) k l m o p q [.lst r,.lst (g++b8 10 1 [.int h,.str i,.lst [],.str j,.int 0,.int 0,.bool false,.int 0,.int 0,.lst []])])) True))))/\(¬b=0->Nd (¬b=0) (Nd (I64 (b+(-1)))<|Nb (b+(-1)) (ln a)<|Nd (b+(-1)<ln a)<|Nd (b+(-1)<ln a)<|Nd (b+(-1)<ln a)<|Nd (b+(-1)<ln a)<|Nd (I64 (c+1))<|Nd (b+(-1)<ln a)<|Nd (I64 (d+1))<|Nd (I64 (f+1))<|Nq (ln a)<|Nd (eI (.int h::.str i::.str s::.lst t::.str j::.lst u::JD a b c d f k l m o p q r g) (.int (IntKind.wrap .u32 (b+(-1)))::.int (cI a (b+(-1)) 0)::.int 0::.lst (a8 (a8 (a8 a (b+(-1)) 2 (.int 0)) (b+(-1)) 1 (.bool true)) (b+(-1)) 3 (.int (ln g)))::J10 (cI a (b+(-1)) 2) (c+1) (d+1) (f+1) k l m o p q [.lst r,.lst (g++b8 10 1 [.int h,.str i,.lst [],.str j,.int 0,.int 0,.bool false,.int 0,.int 0,.lst []])])) True))))/\(¬v=0->Nq (ln a) (Nd (eI (.int h::.str i::.str s::.lst t::.str j::.lst u::JD a b c d f k l m o p q r g) (.int 0::.int 0::.int 1::JD a b c d f k l m o p q r g)) True))))
def vcCre_eq :kq Go.Proofs.Tryz.prog cCre Np (OV 0) (OM 0) 37=vcCre:=by kernel_rfl
section
variable {D D':DM}{S N S' N' st:Sx.Rows}{fr lv i g x y c0 c1 c2 c3 c4 c5 c6 c7:Int}{K c k:Nat}{G G':Nat->Nat}{T T':List RS}{M:List RN}{cs:Ak}
def WF.rn_eq (w:WF D K){s:Sl}(h:D.L[c]? =some s)(b:s.used=true)(a:∀(j:Nat) s,D.L[j]? =some s->s.used=true->G j=G' j):s.n.rn G=s.n.rn G':=by
 unfold Nod.rn;have d:hG' G s.n.par=hG' G' s.n.par:=by unfold hG';rcases w.par c s h b with e| ⟨p,sp,e,h1,h2,_⟩;rw[e];rfl;rw[e,PE (by omega),PE (by omega),Qd,a p sp h1 h2]
 have f:s.n.ch.map (D9 G)=s.n.ch.map (D9 G'):=List.map_congr_left fun j hj=>by obtain⟨sj,h1,h2,_⟩:=(w.ch c s h b).2 j hj;unfold D9;rw[a j sj h1 h2]
 rw[d,f]
def RlT.regen (h:RlT G D T M fr lv)(b:∀(c:Nat) s,D.L[c]? =some s->s.used=true->s.n.rn G=s.n.rn G'):RlT G' D T M fr lv:=
 ⟨h.len,fun i s hs=>by obtain⟨r,h1,h2,h3,h4⟩:=h.row i s hs;exact⟨r,h1,h2,h3,fun a=>by rw[<-b i s hs a];exact h4 a⟩,h.inj,h.free,h.nodup,h.all,h.lv⟩
def Ch.mod {q:RS->RS}{j:Nat}:∀ {l:Ah} {fr:Int},Ch T fr l->j∉l->Ch (T.modify j q) fr l
 | [],_,h,_=>h|a::l,_,⟨h1,r,h2,h3,h4⟩,hn=>by have e:j≠a:=fun e=>hn (by simp[e]);exact⟨h1,r,by rw[j9,PE e];exact h2,h3,h4.mod fun m=>hn (by simp[m])⟩
def Ch.unused :∀ {l:Ah} {fr:Int},Ch T fr l-> ∀j∈l,∃r,T[j]? =some r/\r.u=false
 | [],_,_,j,h=>by simp at h|a::l,_,⟨h1,r,h2,h3,h4⟩,j,h=>by rcases Qa.1 h with rfl|h;exact⟨r,h2,h3⟩;exact h4.unused j h
variable {n:Nod}
def jD {L:List Sl}:∀ {c:Nat} {s:Sl},L[c]? =some s->s.used=false->(L.modify c fun s=>⟨s.g,true,n⟩).countP (·.used)=L.countP (·.used)+1:=by
 induction L with
 |nil=>intro c s h;simp at h
 |cons a L d=>
  intro c s h b;cases c with
  |zero=>simp at h;subst h;simp[List.countP_cons,b]|succ c=>simp at h;simp[List.countP_cons,d h b];omega
variable {C:Ak}
def RlT.take {i:Nat}{l:Ah}(h:RlT G D T M fr lv)(hf:D.free=i::l){r:RS}(hr:T[i]? =some r):RlT G ⟨D.L.modify i fun s=>⟨s.g,true,n⟩,l,C⟩ (T.modify i fun r=>⟨r.g,true,0,M.length⟩) (M++ [n.rn G]) r.nx (lv+1):=by
 have o:=h.free;rw[hf]at o;obtain⟨_,P,q,z,hl⟩:=o;rw[hr]at q;cases q;have d:=h.nodup;rw[hf]at d;obtain⟨hi,d⟩:=List.nodup_cons.1 d;obtain⟨s,hs,hg,w,_⟩:=h.back hr;have old:∀j:Nat,∀rj,T[j]? =some rj->rj.u=true->rj.p<M.length:=fun j rj h1 h2=>by obtain⟨sj,k1,k2,k3,I⟩:=h.back h1;obtain⟨O,J⟩:=I (by rw[<-k3];exact h2);have:=(Po.1 J).1;omega
 refine⟨by simpa using h.len,fun j sj hj=>?_,fun a b B rb f hb E F e=>?_,hl.mod hi,d,fun j sj hj hn=>?_,?_⟩;simp only[j9]at hj⊢;by_cases e:i=j;subst e;rw[PG rfl,hs]at hj;cases hj;exact⟨⟨r.g,true,0,M.length⟩,by rw[PG rfl,hr];rfl,hg,rfl,fun _=>⟨by simp,by simp⟩⟩;rw[PE e]at hj⊢;obtain⟨rj,h1,h2,h3,h4⟩:=h.row j sj hj;refine⟨rj,h1,h2,h3,fun w=>?_⟩;obtain⟨H,A⟩:=h4 w;exact⟨H,by rw[Pu (Po.1 A).1];exact A⟩;simp only[j9]at f hb;by_cases t:i=a<;>by_cases v:i=b;omega;rw[PG t]at f;rw[PE v]at hb;subst t;rw[hr]at f;cases f;have:=old b rb hb F;simp only at e;omega;rw[PE t]at f;rw[PG v]at hb;subst v;rw[hr]at hb;cases hb;have:=old a B f E;simp only at e;omega;rw[PE t]at f;rw[PE v]at hb;exact h.inj a b B rb f hb E F e;simp only[j9]at hj;by_cases e:i=j;subst e;rw[PG rfl,hs]at hj;cases hj;simp at hn;rw[PE e]at hj;have:=h.all j sj hj hn;rw[hf]at this;rcases Qa.1 this with e'|m;exact absurd e'.symm e;exact m;rw[h.lv];have:=jD (n:=n) hs (by rw[<-w];exact z);simp only[this];omega
def RlT.grow (h:RlT G D T M fr lv)(hf:D.free=[]):RlT G ⟨D.L++ [⟨1,false,n⟩],[D.L.length],C⟩ (T++ [⟨1,false,0, -1⟩]) M (D.L.length+1) lv:=by
 have get:∀(j:Nat) s,(D.L++ [⟨1,false,n⟩])[j]? =some s->D.L[j]? =some s\/(j=D.L.length/\s=⟨1,false,n⟩):=fun j s hj=>by
  by_cases e:j<D.L.length;rw[Pu e]at hj;exact .inl hj
  ·rw[Pt (by omega)]at hj;have:j-D.L.length=0:=by by_cases z:j-D.L.length=0;exact z;rw[Rn (by simp;omega)]at hj;cases hj
   rw[this]at hj;cases hj;exact .inr ⟨by omega,rfl⟩
 have d:∀(j:Nat) r,(T++ [⟨1,false,0, -1⟩])[j]? =some r->r.u=true->T[j]? =some r:=fun j r hj p=>by
  by_cases e:j<T.length;rw[Pu e]at hj;exact hj
  ·rw[Pt (by omega)]at hj;have:j-T.length=0:=by by_cases z:j-T.length=0;exact z;rw[Rn (by simp;omega)]at hj;cases hj
   rw[this]at hj;cases hj;simp at p
 refine⟨by simpa using h.len,fun j s hj=>?_,fun a b f rb o hb l m e=>h.inj a b f rb (d a f o l) (d b rb hb m) l m e,⟨rfl,⟨1,false,0, -1⟩,?_,rfl,rfl⟩,by simp,fun j s hj hn=>?_,?_⟩;rcases get j s hj with hj| ⟨rfl,rfl⟩;obtain⟨r,h1,h2⟩:=h.row j s hj;exact⟨r,by rw[Pu (Po.1 h1).1];exact h1,h2⟩;exact⟨⟨1,false,0, -1⟩,by rw[<-h.len];simp,rfl,rfl,fun h=>by simp at h⟩;rw[<-h.len];simp;rcases get j s hj with hj| ⟨rfl,rfl⟩;have:=h.all j s hj hn;rw[hf]at this;simp at this;simp;rw[h.lv];simp[List.countP_append]
def NJ {X:Sx.Rows}(h:∀(j:Nat) a,T'[j]? =some a->a.u=true->(∃r,T[j]? =some r/\r.u=true/\r.p=a.p)\/(N.length:Int)<=a.p):Fr (T.map RS.row) N (T'.map RS.row) (N++X):=by
 refine⟨by simp,fun k hk _=>Pu hk,fun j hj d=>?_⟩;rw[PD]at hj;have b:T'[((j:Nat):Int).toNat]? =some (T'[j]'hj):=by rw[Qd];exact Pw hj
 simp only[cB,cI]at d⊢;rw[i4 b]at d⊢;rcases h j _ (Pw hj) d with⟨r,h1,h2,h3⟩|h1
 ·have hr:T[((j:Nat):Int).toNat]? =some r:=by rw[Qd];exact h1
  refine .inl ⟨j,by rw[PD];exact(Po.1 h1).1,?_,?_⟩;rw[i4 hr];exact h2;rw[i4 hr];exact h3
 exact .inr h1
end
section
variable {D D':DM}{S N S' N' st S1:Sx.Rows}{fr lv i g x y fr1:Int}{K c k:Nat}{G G':Nat->Nat}{T T':List RS}{M:List RN}{cs:Ak}{n:Nod}
def DM.grow_get {j:Nat}{s:Sl}(h:D.L[j]? =some s):D.grow.L[j]? =some s:=by unfold DM.grow;split;rw[Pu (Po.1 h).1];exact h;exact h
def DM.grow_old {j:Nat}{s:Sl}(h:D.grow.L[j]? =some s)(a:s.used=true):D.L[j]? =some s:=by unfold DM.grow at h;split at h;by_cases e:j<D.L.length;rw[Pu e]at h;exact h;rw[Pt (by omega)]at h;have:=Pv h;simp at this;rw[this]at a;simp at a;exact h
def Rl.take (h:Rl D.gen D S N fr lv)(w:WF D K)(h1:(fr=0/\S1=S++xF/\fr1=ln S+1)\/(fr≠0/\S1=S/\fr1=fr))(hn:n.par= -1/\n.ch=[]):∃i:Nat,fr1=i+1/\(D.take n).2=i/\i<S1.length/\cI S1 i 0=(D.take n).1.gen i/\i<=1000/\S1.length<=1001/\(D.take n).1.C=D.C/\Rl (D.take n).1.gen (D.take n).1 (a8 (a8 (a8 S1 i 2 (.int 0)) i 1 (.bool true)) i 3 (.int (ln N))) (N++ [(n.rn D.gen).row]) (cI S1 i 2) (lv+1)/\Fr S N (a8 (a8 (a8 S1 i 2 (.int 0)) i 1 (.bool true)) i 3 (.int (ln N))) (N++ [(n.rn D.gen).row]):=by
 obtain⟨T,M,rfl,rfl,o⟩:=h;have hl:=o.len;have lim:=w.lim;have b:∃T1 i l,S1=T1.map RS.row/\RlT D.gen D.grow T1 M fr1 lv/\D.grow.free=i::l/\(∀(j:Nat) r,T1[j]? =some r->r.u=true->T[j]? =some r)/\T1.length<=1001:=by
  rcases h1 with⟨rfl,rfl,rfl⟩| ⟨h0,rfl,rfl⟩
  ·have hf:D.free=[]:=by
    have:=o.free;cases e:D.free with
    |nil=>rfl|cons a l=>rw[e]at this;have:=this.1;omega
   have hg:=o.grow hf (n:=C2 0 [] []) (C:=D.C);refine⟨T++ [⟨1,false,0, -1⟩],D.L.length,[],by simp[xF,RS.row,b8],?_,by unfold DM.grow;rw[PG hf],fun j r hj H=>?_,by simp;omega⟩
   ·have O:ln (T.map RS.row)=(D.L.length:Int):=by simp[ln,hl]
    unfold DM.grow;rw[PG hf,O];exact hg
   by_cases e:j<T.length;rw[Pu e]at hj;exact hj;rw[Pt (by omega)]at hj;have:=Pv hj;simp at this;rw[this]at H;simp at H
  ·cases e:D.free with
   |nil=>have:=o.free;rw[e]at this;exact absurd this h0|cons a l=>
    have hg:D.grow=D:=by unfold DM.grow;rw[PE (by simp[e])]
    exact⟨T,a,l,rfl,by rw[hg];exact o,by rw[hg];exact e,fun _ _ h _=>h,by omega⟩
 obtain⟨T1,i,l,rfl,d,hf,z,v⟩:=b;have q:=d.free;rw[hf]at q;obtain⟨P,r,hr,H,_⟩:=q;have hk:=d.take (C:=D.C) (n:=n) hf hr;have hi:=(Po.1 hr).1;have m:D.take n=(⟨D.grow.L.modify i fun s=>⟨s.g,true,n⟩,l,D.C⟩,i):=by unfold DM.take;rw[hf]
 have t:∀(j:Nat) s,D.L[j]? =some s->D.gen j=(D.take n).1.gen j:=by intro j s hj;rw[Rs hj,m];unfold DM.gen;simp only[j9,DM.grow_get hj];by_cases e:i=j<;>simp[e]
 have A:T1[((i:Nat):Int).toNat]? =some r:=by rw[Qd];exact hr
 obtain⟨s,hs,F,f,_⟩:=d.back hr;have I:a8 (a8 (a8 (T1.map RS.row) i 2 (.int 0)) i 1 (.bool true)) i 3 (.int (ln (M.map RN.row)))=(T1.modify i fun r=>⟨r.g,true,0,M.length⟩).map RS.row:=by rw[R8 (fun r:RS=> {r with nx:=0}) (fun _=>rfl),R8 (fun r:RS=> {r with u:=true}) (fun _=>rfl),R8 (fun r:RS=> {r with p:=(M.length:Int)}) (fun a=>by simp[RS.row,ln]),Qd,B2,B2]
 refine⟨i,by omega,by rw[m],by rw[PD];exact hi,?_,by omega,by rw[PD];exact v,by rw[m],?_,?_⟩;simp only[cI];rw[i4 A,m];unfold DM.gen;simp only[j9,hs];simp[RS.row,Dat.toInt,F]
 ·rw[I];have E:cI (T1.map RS.row) i 2=r.nx:=by simp only[cI];rw[i4 A];rfl
  rw[E];refine⟨_,M++ [n.rn D.gen],rfl,by simp,?_⟩;have:=hk.regen (G':=(D.take n).1.gen) fun c s hc f=>?_;rw[show(D.take n).1=⟨D.grow.L.modify i fun s=>⟨s.g,true,n⟩,l,D.C⟩ by rw[m]]at this⊢;exact this;simp only[j9]at hc;by_cases e:i=c;subst e;rw[PG rfl,hs]at hc;cases hc;unfold Nod.rn;simp only[hn.1,hn.2];rfl;rw[PE e]at hc;exact w.rn_eq (DM.grow_old hc f) f fun j s h _=>t j s h
 rw[I];refine NJ fun j J hj B=>?_;simp only[j9]at hj;by_cases e:i=j;subst e;rw[PG rfl,hr]at hj;cases hj;exact .inr (by simp);rw[PE e]at hj;exact .inl ⟨J,z j J hj B,B,rfl⟩
