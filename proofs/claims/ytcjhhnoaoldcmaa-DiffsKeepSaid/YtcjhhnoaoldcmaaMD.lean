/- keep, whole: what a call of it does.
  Conditions: none. -/
import Derived.Test.YtcjhhnoaoldcmaaMC
set_option linter.unusedVariables false
set_option linter.unusedSimpArgs false
noncomputable section
namespace Go.D
open Go Go.Xe Go.Sx
open Go.C36 (row)
variable {ov :FuncId->Option TypeId}
variable {F:FB}
theorem PV.arrs {F':FB}(h:∀i b cs,F i=some b->arr b=some cs->F' i=some b){k:Kd}{v:Value}{d:Dat}(p:PV PR F k v d):PV PR F' k v d:=by
 induction p with
 |int k n=>exact .int k n
 |bool b=>exact .bool b
 |str s=>exact .str s
 |nils e=>exact .nils e
 |vague e=>exact .vague e
 |sl e i o c b cs n z rows x hF hb hc hn hz hr hx _ a=>exact .sl e i o c b cs n z rows x (h _ _ _ hF hb) hb hc hn hz hr hx a
theorem RN.arrs {F':FB}(h:∀i b cs,F i=some b->arr b=some cs->F' i=some b){t:Tree}{g:Nat->Option Value}(p:RN F t g):RN F' t g:=by
 obtain⟨⟨a,b,c,⟨l,d,e⟩,f⟩,vc,j,k⟩:=p
 exact⟨⟨a,b,c,⟨l,d,PV.arrs h e⟩,f⟩,vc,j,PV.arrs h k⟩
theorem Win.frz  {hp : Hp} {iw ow N : Nat} {t : Tree} {c : List Tree} {cs : T Value} {io : Option Nat} (W : Win F hp iw ow N t (rows c) cs io) :
  ∃G:FB,Fle F G/\FH G hp/\(∀q b,G q=some b->q≠iw/\(F q=some b\/io=some q))/\RN G (.mk t.k t.t t.y t.a t.x c) (at6 cs ow):=by
 obtain⟨v,l,u⟩:=W.v5
 rcases u with⟨s,rfl,rfl⟩| ⟨i,o,C,p,n,rfl,rfl,hc,hlt,g,f,hq,hr⟩
 ·refine⟨F,Fle.refl _,W.fh,fun q b h=>⟨fun e=>?_,.inl h⟩,W.hd,_,l,?_⟩
  ·rw[e,W.wf]at h;cases h
  ·show PV PR F (.sl tN) _ (.lst (rows c))
   rw[s]
   exact .nils _
 ·let G:FB:=fun q=>if q=i then hp.m.get i else F q
  have j:∀q b,G q=some b->(q=i/\hp.m.get i=some b)\/(q≠i/\F q=some b):=fun q b h=>by
   have h:(if q=i then hp.m.get i else F q)=some b:=h
   by_cases e:q=i
   ·rw[bC3 e]at h;exact .inl ⟨e,h⟩
   ·rw[bC1 e]at h;exact .inr ⟨e,h⟩
  have hl:Fle F G:=fun q b h=>by
   show(if q=i then hp.m.get i else F q)=some b
   rw[bC1 (fun e=>by rw[e,f]at h;cases h)]
   exact h
  refine⟨G,hl,fun q b h=>?_,fun q b h=>?_,W.hd.mono hl,_,l,?_⟩
  ·rcases j q b h with⟨rfl,h⟩| ⟨_,h⟩
   ·exact⟨h,hlt⟩
   ·exact W.fh q b h
  ·rcases j q b h with⟨rfl,h⟩| ⟨_,h⟩
   ·exact⟨g,.inr rfl⟩
   ·exact⟨fun e=>(by rw[e,W.wf]at h;cases h),.inl h⟩
  ·refine pv_of_rowsAt (cs:=p) (o:=o) (n:=n) (by show(if i=i then hp.m.get i else F i)=_;rw[bC3 rfl];exact hq) ?_ ?_
   ·rcases hc with⟨h1,h2,_⟩| ⟨lo,h1,h2,h3⟩
    ·exact .inl ⟨h1,by rw[h2];exact bC4 _⟩
    ·exact .inr ⟨lo,h1,h2,h3⟩
   ·obtain⟨w,z,A,B⟩:=hr
    exact⟨w,z,A,fun r k row d a b=>by
     obtain⟨x,hx,hp⟩:=B r k row d a b
     exact⟨x,hx,fun kd hk=>(hp kd hk).mono PR hl⟩⟩
theorem keep_ok (K:Go.Xe.isT (ov kF)=false)(I:∀tm,M4 PR U0 cKr (PmT tpKr tm) (PcX PR ov ntKr (pcKr (f5 PR kF)) otKr 6 tm))(g:d6 PR U0 ov cMat2 25):∀(d:Nat) (t o:Tree),t.size<=d->AllA t->Valid o->KeepAt ov t o
 |0,t,o,hd,_,_=>by have:=size_pos t;omega
 |d+1,t,o,hd,E,J=>by
  intro hp vs F0 iw ow N cs S y l hF f T P r Q v p n
  have U:∀s o',s∈t.c->o'∈o.c->KeepAt ov s o':=fun s o' hs R=>keep_ok K I g d s o' (by
   rw[size_def]at hd
   obtain⟨a,b,e⟩:=List.append_of_mem hs
   have L:t.c=(a++ [s])++b:=by rw[e];simp
   rw[L,sizes_app,sizes_app,one_s]at hd
   omega) (by
   obtain⟨j,hj⟩:=bK1 hs
   exact AllAs_mem ((AllA_iff t).1 E).2 hj) (valid_c J R)
  obtain⟨tm',hp1,x,i,F1,io,W,Y,wn,fl,fz,z⟩:=keep_code I g E J U y l hF f T P r Q v p n (tm0:=fill .e 0 [.agg vs.toArray,.pointer (some ⟨iw,ow,none⟩)]) (by rw[A0];rfl) (by rw[A0];rfl)
  obtain⟨G,C,D,M,O⟩:=W.frz
  obtain⟨hp2,V,X,A,B⟩:=ad9 (ov:=ov) (args:=[.agg vs.toArray,.pointer (some ⟨iw,ow,none⟩)]) (c:=f5 PR kF) k_fn (by kernel_rfl) K (show XK PR ov (2+(Go.Proofs.Try.f33.ntmps-2)) _ _ _ _ _ _ from(show 2+(Go.Proofs.Try.f33.ntmps-2)=69 from by kernel_rfl)▸x) (.inl rfl) (vs:=[]) (fun _ _=>by
   have e:Go.Proofs.Try.f33.results.toList=[]:=by kernel_rfl
   rw[e];rfl)
  let H:FB:=fun q=>match F0 q with
   |some b=>some b
   |none=>match G q with
    |some b=>if(arr b).isSome then some b else none
    |none=>none
  have hH:∀q b,H q=some b->F0 q=some b\/(F0 q=none/\G q=some b/\(arr b).isSome=true):=fun q b h=>by
   have h:(match F0 q with
    |some b=>some b
    |none=>match G q with
     |some b=>if(arr b).isSome then some b else none
     |none=>none)=some b:=h
   cases h0:F0 q with
   |some b'=>rw[h0]at h;exact .inl h
   |none=>
    rw[h0]at h
    simp only at h
    cases h1:G q with
    |none=>rw[h1]at h;cases h
    |some b'=>
     rw[h1]at h
     simp only at h
     by_cases h2:(arr b').isSome=true
     ·rw[bC3 h2]at h
      cases h
      exact .inr ⟨rfl,rfl,h2⟩
     ·rw[bC1 h2]at h;cases h
  have u:Fle F0 H:=fun q b h=>by
   show(match F0 q with
    |some b=>some b
    |none=>match G q with
     |some b=>if(arr b).isSome then some b else none
     |none=>none)=some b
   rw[h]
  have k:∀q b c,G q=some b->arr b=some c->H q=some b:=fun q b c h1 h2=>by
   show(match F0 q with
    |some b=>some b
    |none=>match G q with
     |some b=>if(arr b).isSome then some b else none
     |none=>none)=some b
   cases h0:F0 q with
   |some b'=>
    have:=C _ _ (fl _ _ h0)
    rw[h1]at this
    exact this.symm
   |none=>simp only[h1,h2,Option.isSome_some,bI6]
  have old:∀j,j<hp.nx->hp1.m.get j=hp.m.get j->hp2.m.get j=hp.m.get j:=fun j hj h=>by
   by_cases e:hp1.m.get j=some .dfr
   ·rw[h]at e
    rw[e]
    exact B.dfr j hj e
   ·rw[A j e];exact h
  refine⟨hp2,i,H,V,B,fun j h1 h2 h3=>old j h1 (Y j h1 h2 h3),?_,wn,u,fun q b h=>?_,fun q b h=>?_,?_⟩
  ·rw[A iw (by rw[W.w];exact fun e=>by cases e)]
   exact W.w
  ·rcases hH q b h with h| ⟨_,h,h'⟩
   ·obtain⟨k1,k2⟩:=hF q b h
    refine⟨?_,bF3 k2 B.nx⟩
    rw[old q k2 ?_]
    ·exact k1
    ·rw[(D q b (C _ _ (fl _ _ h))).1,k1]
   ·obtain⟨k1,k2⟩:=D q b h
    refine⟨?_,by rw[X];exact k2⟩
    rw[A q (fun e=>by rw[k1]at e;cases e;cases h')]
    exact k1
  ·rcases hH q b h with h| ⟨_,h,_⟩
   ·exact⟨(f q b h).2,.inl h⟩
   ·obtain⟨k1,k2⟩:=M q b h
    refine⟨k1,?_⟩
    rcases k2 with k2|k2
    ·exact fz q b k2
    ·exact(z q k2).elim (fun h=>.inr (.inr h)) fun h=>.inr (.inl h)
  ·rw[keepT_eq]
   exact O.arrs k
end Go.D
