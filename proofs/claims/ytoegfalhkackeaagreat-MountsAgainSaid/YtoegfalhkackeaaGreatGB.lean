/- Mounts: where a mounted tree lies: a new node, its attributes, a child more.
  Conditions: none. -/
import Derived.Test.YtoegfalhkackeaaGreatGM
set_option linter.all false
noncomputable section
namespace Go.D
open Go Go.Xe Go.Sx
section
variable {D D':DM}{K r p c:Nat}{sl sp sc:Sl}{t x:Str}{k:Int}
variable {n:Nat}
def tB (h:n≠0):(D.cnt n).C.headD 0=D.C.headD 0:=by
 unfold DM.cnt;cases D.C with
 |nil=>simp|cons a l=>cases n with
  |zero=>exact absurd rfl h|succ n=>simp
def OZ (h:∀j:Nat,D'.L[j]?.map Sl.g=D.L[j]?.map Sl.g)(j:Nat):D'.gen j=D.gen j:=by
 have:=h j;unfold DM.gen;cases e:D.L[j]? with
 |none=>cases e':D'.L[j]? with
  |none=>rfl|some s=>rw[e,e']at this;cases this
 |some s=>cases e':D'.L[j]? with
  |none=>rw[e,e']at this;cases this
  |some s'=>rw[e,e']at this;simpa using this
def Rw (w:WF D K)(B:K+1<=1000)(z:¬((k=1/\v5 t=false)\/(k=2/\E8 x=false))):∃r g:Nat,(D7 D k t x).2=((r:Int),(g:Int),(0:Int))/\(D7 D k t x).1.L[r]? =some ⟨g,true,D9 k t x⟩/\Gw D (D7 D k t x).1 1 (fun _=>False)/\D.nx 1=[r]:=by
 have lim:=w.lim;obtain⟨A,y⟩:∃a l,D.C=a::l:=by obtain⟨a,b,c,d,e,f,h,h1,_⟩:=w.cnt;exact⟨_,_,h1⟩
 obtain⟨cl,v⟩:=y;have hc:∀D1:DM,D1.C=D.C->((D1.cnt 0).cnt 1).C.headD 0=D.C.headD 0+1:=fun D1 e=>by rw[tB (by omega)];unfold DM.cnt;rw[e,v];rfl
 unfold D7;rw[TH z];simp only;by_cases e:D.free=[]
 ·have m:D.take (D9 k t x)=(⟨(D.L++ [(⟨1,false,D9 0 [] []⟩:Sl)]).modify D.L.length fun s:Sl=>(⟨s.g,true,D9 k t x⟩:Sl),[],D.C⟩,D.L.length):=by unfold DM.take DM.grow;rw[TJ e]
  have hr:((D.L++ [(⟨1,false,D9 0 [] []⟩:Sl)]).modify D.L.length fun s:Sl=>(⟨s.g,true,D9 k t x⟩:Sl))[D.L.length]? =some ⟨1,true,D9 k t x⟩:=by rw[m9,TJ rfl,Tt (by omega)];simp
  have hj:∀j:Nat,j<D.L.length->((D.L++ [(⟨1,false,D9 0 [] []⟩:Sl)]).modify D.L.length fun s:Sl=>(⟨s.g,true,D9 k t x⟩:Sl))[j]? =D.L[j]? :=fun j hj=>by rw[m9,TH (by omega),Tu hj]
  have hg:(D.take (D9 k t x)).1.gen D.L.length=1:=by rw[m];unfold DM.gen;simp only[hr]
  refine⟨D.L.length,1,by rw[m]at hg⊢;rw[hg],by rw[m];exact hr,⟨fun j sl h1 h2 _=>?_,?_,?_,?_,fun j h=>?_,fun j h1 h2=>?_⟩,?_⟩;rw[m];exact(hj j (Tn.1 h1).1).trans h1;rw[m,e];rfl;rw[m,e];show((D.L++ [(⟨1,false,D9 0 [] []⟩:Sl)]).modify _ _).length=_;simp;exact hc _ (by rw[m]);rw[m];unfold DM.gen;simp only[DM.cnt,hj j h]
  ·rw[m]at h2⊢;have:j=D.L.length:=by have:j<(List.modify _ _ _).length:=h2;simp at this;omega
   subst this;rw[m]at hg;exact hg
  show Go.D.nx _ _ _=_;rw[e];rfl
 ·cases o:D.free with
  |nil=>exact absurd o e|cons i l=>
  obtain⟨s,h3,h4⟩:=w.free.2 i (by rw[o];exact List.mem_cons_self);have m:D.take (D9 k t x)=(⟨D.L.modify i fun s:Sl=>(⟨s.g,true,D9 k t x⟩:Sl),l,D.C⟩,i):=by unfold DM.take DM.grow;rw[TH e,o]
  have hr:(D.L.modify i fun s:Sl=>(⟨s.g,true,D9 k t x⟩:Sl))[i]? =some ⟨s.g,true,D9 k t x⟩:=by rw[m9,TJ rfl,h3];rfl
  have hg:(D.take (D9 k t x)).1.gen i=s.g:=by rw[m];unfold DM.gen;simp only[hr]
  have u:∀j:Nat,(D.L.modify i fun s:Sl=>(⟨s.g,true,D9 k t x⟩:Sl))[j]?.map Sl.g=D.L[j]?.map Sl.g:=fun j=>by rw[m9];split;rw[Option.map_map];rfl;rfl
  refine⟨i,s.g,by rw[m]at hg⊢;rw[hg],by rw[m];exact hr,⟨fun j sl h1 h2 _=>?_,?_,?_,?_,fun j h=>?_,fun j h1 h2=>?_⟩,?_⟩;rw[m];show(D.L.modify i _)[j]? =_;rw[m9,TH,h1];rintro rfl;rw[h3]at h1;cases h1;rw[h4]at h2;cases h2;rw[m,o];rfl;rw[m,o];show(List.modify _ _ _).length=_;simp;exact hc _ (by rw[m]);rw[m];exact OZ u j;rw[m]at h2;have:j<(List.modify _ _ _).length:=h2;simp at this;omega;show Go.D.nx _ _ _=_;rw[o];rfl
variable {q:Nod->Nod}
def PN (hn:n≠0):Gw D ((D.setN r q).cnt n) 0 (fun j=>j=r):=
 ⟨fun j sl h1 h2 h3=>by show(D.L.modify r _)[j]? =_;rw[m9,TH (Ne.symm h3)];exact h1,rfl,by show(D.L.modify r _).length=_;simp,by rw[tB hn];show D.C.headD 0=D.C.headD 0+((0:Nat):Int);simp,fun j _=>congrFun (DM.setN_gen (D:=D)) j,fun j h1 h2=>by have:j<(D.L.modify r _).length:=h2;simp at this;omega⟩
def NJ (h:D.L[r]? =some sl):((D.setN r q).cnt n).L[r]? =some {sl with n:=q sl.n}:=by show(D.L.modify r _)[r]? =_;rw[m9,TJ rfl,h];rfl
def CH {e:Ed}(he:e.d=false):∀ {l:List Att},(∀b∈l,lt b.n e.n=true)->bY l e=l++ [⟨e.n,e.v⟩]/\bad1 l e=false
 | [],_=>by simp[bY,edA,bad1,he]|a::l,h=>by obtain⟨h1,h2⟩:=CH he (l:=l) fun b hb=>h b (Ut _ hb);have:=h a List.mem_cons_self;simp[bY,bad1,this,h1,h2]
def II :∀(a b:List Att) {D:DM} {sl:Sl},D.L[r]? =some sl->sl.used=true->sl.n.kind=1->sl.n.atts=b->(b++a).length<=8->(∀z∈a,v5 z.n=true/\E8 z.v=true)->Asc ((b++a).map Att.n)->Gw D (a.foldl (setA r sl.g) D) 0 (fun j=>j=r)/\(a.foldl (setA r sl.g) D).L[r]? =some ⟨sl.g,true,{sl.n with atts:=b++a}⟩
 | [],b,D,sl,h,i,hk,hb,m,hv,d=>by refine⟨⟨fun j s h1 _ _=>h1,rfl,by simp,by simp,fun _ _=>rfl,fun j h1 h2=>by simp at h2;omega⟩,?_⟩;rw[UV,<-hb];simp only[List.foldl_nil,h];cases sl;simp at i;subst i;rfl
 |z::a,b,D,sl,h,i,hk,hb,m,hv,d=>by
  have hz:=hv z List.mem_cons_self;have o:D.at r sl.g=some r:=by have:=Vn h i;rwa[Vo h]at this
  have f:apF sl.n.atts ⟨z.n,false,z.v⟩=(b++ [z],0):=by
   rw[hb];obtain⟨e1,e2⟩:=CH (e:=⟨z.n,false,z.v⟩) rfl (l:=b) fun y hy=>by unfold Asc at d;rw[Ui,List.pairwise_append]at d;exact d.2.2 y.n (List.mem_map_of_mem hy) z.n (by simp)
   unfold apF;rw[e1,e2];simp at m⊢;omega
  have e:setA r sl.g D z=(D.setN r fun n=> {n with atts:=(apF n.atts ⟨z.n,false,z.v⟩).1}).cnt 6:=by unfold setA fZ;rw[o];simp only;rw[Vp h,hk,f];simp[pP,hz]
  have h':=NJ (q:=fun n=> {n with atts:=(apF n.atts ⟨z.n,false,z.v⟩).1}) (n:=6) h;rw[List.foldl_cons,e];obtain⟨u,w⟩:=II a (b++ [z]) (D:=(D.setN r fun n=> {n with atts:=(apF n.atts ⟨z.n,false,z.v⟩).1}).cnt 6) h' i hk (by show(apF sl.n.atts _).1=_;rw[f]) (by simpa using m) (fun y hy=>hv y (Ut _ hy)) (by simpa using d);exact⟨(PN (by omega)).trans u fun j s _ _ h=>⟨h,h⟩,by simpa using w⟩
def RO (hp:D.L[p]? =some sp)(up:sp.used=true)(hk:sp.n.kind=1)(pr:sp.n.par= -1)(hc:D.L[c]? =some sc)(i:sc.used=true)(f:sc.n.par= -1)(a:p≠c):Gw D (gW D p sp.g c sc.g 0 0).1 0 (fun j=>j=p\/j=c)/\(gW D p sp.g c sc.g 0 0).1.L[p]? =some ⟨sp.g,true,{sp.n with ch:=sp.n.ch++ [c]}⟩/\ ∀j,j≠p->vw (gW D p sp.g c sc.g 0 0).1 j=vw D j:=by
 have d:D.at p sp.g=some p:=by have:=Vn hp up;rwa[Vo hp]at this
 have a2:D.at c sc.g=some c:=by have:=Vn hc i;rwa[Vo hc]at this
 have b:¬Abv D c p:=fun h=>by rcases h.inv with h| ⟨q,s,h1,h2,_⟩;exact a h.symm;rw[hp]at h1;cases h1;omega
 have e:(gW D p sp.g c sc.g 0 0).1=D.kids p c (sp.n.ch++ [c]) p 3:=by unfold gW;rw[d,a2];simp only[DM.opt,and_self,if_true];rw[Vp hp,Vp hc,TH (by omega),TH (by rintro (h|h);exact h f;exact b h),TH (by omega),Bs (by omega)]
 rw[e];have get:∀j:Nat,(D.kids p c (sp.n.ch++ [c]) p 3).L[j]? =D.L[j]?.map fun s=>(⟨s.g,s.used,{s.n with ch:=(if p=j then sp.n.ch++ [c]else s.n.ch),par:=(if c=j then(p:Int)else s.n.par)}⟩:Sl):=fun j=>by
  unfold DM.kids DM.cnt DM.setN;simp only[m9];cases D.L[j]? with
  |none=>simp|some s=>by_cases e1:p=j<;>by_cases e2:c=j<;>simp[e1,e2]
 refine⟨⟨fun j sl h1 h2 h3=>?_,rfl,?_,?_,fun j _=>congrFun DM.kids_gen j,fun j h1 h2=>?_⟩,?_,fun j hj=>?_⟩;rw[get,h1,not_or]at*;simp[Ne.symm h3.1,Ne.symm h3.2];show(List.modify _ _ _).length=_;simp[DM.setN];unfold DM.kids;rw[tB (by omega)];show D.C.headD 0=D.C.headD 0+((0:Nat):Int);simp;have:j<(List.modify _ _ _).length:=h2;simp[DM.setN]at this;omega;rw[get,hp];simp[Ne.symm a,up]
 ·unfold vw;rw[get];cases D.L[j]? with
  |none=>rfl|some s=>simp[Ne.symm hj]
end
structure Mnt (D D':DM)(s:a9)(r:Nat):Prop where
 gw:Gw D D' s.size fun _=>False
 ta:TA D' s r (D.nx s.size)
 root:∃sl,D'.L[r]? =some sl/\sl.n.par= -1
def Mnt.un {D D':DM}{K:Nat}{s:a9}{r:Nat}(h:Mnt D D' s r)(w:WF D K){sl:Sl}(hs:D.L[r]? =some sl):sl.used=false:=by obtain⟨l',e⟩:=h.ta.head;exact Ij w (k:=s.size) (by rw[e];exact List.mem_cons_self) hs
def Mnt.own {D D':DM}{s:a9}{r:Nat}(h:Mnt D D' s r):∃sl,D'.L[r]? =some sl/\sl.used=true/\sl.n.par= -1/\D'.at r (D'.gen r)=some r:=by obtain⟨sl,h1,h2⟩:=h.root;obtain⟨l',e⟩:=h.ta.head;obtain⟨sl',h3,h4⟩:=h.ta.used s r (by rw[e];exact List.mem_cons_self);rw[h1]at h3;cases h3;exact⟨sl,h1,h4,h2,Vn h1 h4⟩
mutual
def uH :∀(s:a9) {D:DM} {K:Nat},WF D K->J3 s->K+G7 s<=1000-> ∃r:Nat,(M2 D s).2=((r:Int),((M2 D s).1.gen r:Int))/\Mnt D (M2 D s).1 s r
 | .mk k t y a x c,D,K,w,o,E=>by
  have hk:=Fs o;simp only[a9.k,a9.t,a9.x]at hk;have b:=o;unfold J3 at b;simp only[G7]at E;have m:¬((k=1/\v5 t=false)\/(k=2/\E8 x=false)):=by rcases hk with⟨h1,h2,_⟩| ⟨h1,h2,_⟩;rintro (⟨_,h3⟩| ⟨h3,_⟩);rw[h2]at h3;cases h3;omega;rintro (⟨h3,_⟩| ⟨_,h3⟩);omega;rw[h2]at h3;cases h3
  have w1:=w.cre (q:=k) (t:=t) (x:=x) (by omega) (by rcases hk with h|h;exact .inl h.1;exact .inr h.1);obtain⟨r,g,e1,u,A,v⟩:=Rw w (by omega) m;have H:t=(if k=1 then t else [])/\x=(if k=1 then []else x):=by rcases hk with⟨h1,_,h3⟩| ⟨h1,_,h3⟩;rw[h3];simp[h1];rw[h3];simp[h1]
  have l:Gw (D7 D k t x).1 (a.foldl (setA r g) (D7 D k t x).1) 0 (fun j=>j=r)/\(a.foldl (setA r g) (D7 D k t x).1).L[r]? =some ⟨g,true,{D9 k t x with atts:=a}⟩:=by rcases b.1 with h|h;have F:a=[]:=h.2.2.2.2.1;subst F;exact⟨⟨fun j s h1 _ _=>h1,rfl,by simp,by simp,fun _ _=>rfl,fun j h1 h2=>by simp at h2;omega⟩,u⟩;exact II a [] (sl:=⟨g,true,D9 k t x⟩) u rfl h.1 rfl h.2.2.2.2.1 h.2.2.2.2.2.2.1 h.2.2.2.2.2.2.2.1
  obtain⟨B,G⟩:=l;have w2:=WF.setAs (i:=r) (g:=g) (a:=a) w1 (by omega);obtain⟨ks,C,n,t3⟩:=mntC_ok c (p:=r) (sp:=⟨g,true,{D9 k t x with atts:=a}⟩) w2 b.2 (by omega) G rfl (fun h=>by rcases b.1 with q|q;exact absurd q.2.2.2.2.2 h;exact q.1) rfl;have z:(M2 D (.mk k t y a x c))=(mntC r g (a.foldl (setA r g) (D7 D k t x).1) c,(r:Int),(g:Int)):=by simp only[M2,e1]
  rw[z];simp only at*;have un:∀(j:Nat) sl,D.L[j]? =some sl->sl.used=true->j≠r:=fun j sl h1 h2 e=>by have:=Ij w (k:=1) (j:=j) (by rw[v,e];simp) h1;rw[this]at h2;cases h2
  have d:Gw D (a.foldl (setA r g) (D7 D k t x).1) 1 (fun _=>False):=A.trans B fun j sl h1 h2 _=>⟨id,un j sl h1 h2⟩
  have f:Gw D (mntC r g (a.foldl (setA r g) (D7 D k t x).1) c) (1+a9.sizes c) (fun _=>False):=d.trans C fun j sl h1 h2 _=>⟨id,un j sl h1 h2⟩
  have hn:D.nx (1+a9.sizes c)=r::(a.foldl (setA r g) (D7 D k t x).1).nx (a9.sizes c):=by rw[d.nx,v];rfl
  rw[show 1+a9.sizes c=(a9.mk k t y a x c).size by simp only[a9.size];omega]at f hn;refine⟨r,by rw[Vo n],f,?_,⟨_,n,rfl⟩⟩;unfold TA;exact⟨ks,_,by unfold vw;rw[n];rfl,hn,t3⟩
def mntC_ok :∀(l:List a9) {D:DM} {K p:Nat} {sp:Sl},WF D K->AllAs l->K+mcosts l<=1000->D.L[p]? =some sp->sp.used=true->(l≠ []->sp.n.kind=1)->sp.n.par= -1-> ∃ks,Gw D (mntC p sp.g D l) (a9.sizes l) (fun j=>j=p)/\(mntC p sp.g D l).L[p]? =some ⟨sp.g,true,{sp.n with ch:=sp.n.ch++ks}⟩/\TAs (mntC p sp.g D l) l ks (D.nx (a9.sizes l))
 | [],D,K,p,sp,w,c,q,hp,up,hk,pr=>by refine⟨[],⟨fun j s h1 _ _=>by simpa [mntC]using h1,by simp[mntC,a9.sizes],by simp[mntC,a9.sizes],by simp[mntC,a9.sizes],fun _ _=>by simp[mntC],fun j h1 h2=>by simp[mntC]at h2;omega⟩,?_,?_⟩;rw[UV];simp only[mntC,hp];cases sp;simp at up;subst up;rfl;unfold TAs;exact⟨rfl,Tq Bk⟩
 |s::l,D,K,p,sp,w,c,q,hp,up,hk,pr=>by
  unfold AllAs at c;simp only[mcosts]at q;obtain⟨r,e1,a⟩:=uH s w c.1 (by omega);have w1:=WF.mnt s w c.1 (by omega);obtain⟨F,hc,E,z,_⟩:=a.own;have B:=Vo hc;have f:p≠r:=fun e=>by have:=a.un w (sl:=sp) (by rw[<-e];exact hp);rw[up]at this;cases this
  have hp1:=a.gw.old p sp hp up id;obtain⟨k,t,v⟩:=RO hp1 up (hk (by simp)) pr hc E z f;rw[<-B]at k t v;have w2:=w1.ins (i:=p) (g:=sp.g) (j:=r) (m:=((M2 D s).1.gen r:Int)) (x:=0) (y:=0) (by omega);have A:mntC p sp.g D (s::l)=mntC p sp.g (gW (M2 D s).1 p sp.g r ((M2 D s).1.gen r:Int) 0 0).1 l:=by simp only[mntC,e1]
  rw[A];obtain⟨ks,o,C,t3⟩:=mntC_ok l (p:=p) (sp:=⟨sp.g,true,{sp.n with ch:=sp.n.ch++ [r]}⟩) w2 c.2 (by omega) t rfl (fun _=>hk (by simp)) pr;have un:∀(j:Nat) sl,D.L[j]? =some sl->sl.used=true->j≠r:=fun j sl h1 h2 e=>by subst e;have:=a.un w h1;rw[this]at h2;cases h2
  have b:Gw D (gW (M2 D s).1 p sp.g r ((M2 D s).1.gen r:Int) 0 0).1 s.size (fun j=>j=p):=a.gw.trans k fun j sl h1 h2 h3=>⟨id,by rintro (h|h);exact h3 h;exact un j sl h1 h2 h⟩
  have d:=b.trans o (ex2:=fun j=>j=p) fun j sl h1 h2 h3=>⟨h3,h3⟩
  have u:∀j∈D.nx s.size,j≠p:=fun j hj e=>by subst e;have:=Ij w hj hp;rw[up]at this;cases this
  refine⟨r::ks,d,by rw[C];simp,?_⟩;unfold TAs;refine⟨r,ks,D.nx s.size,_,rfl,?_,o.ta (a.ta.frame s fun j hj=>v j (u j hj)) u,t3⟩;show D.nx (s.size+a9.sizes l)=_;exact b.nx
end
