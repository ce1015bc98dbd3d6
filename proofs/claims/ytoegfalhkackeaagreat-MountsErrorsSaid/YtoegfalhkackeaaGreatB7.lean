/- The DOM: changes of a node's own fields: the conditions hold.
  Conditions: none. -/
import Derived.Test.YtoegfalhkackeaaGreatA6
set_option linter.all false
noncomputable section
namespace Go.D
open Go Go.Xe Go.Sx
variable {q:Prop}
def nin {a:Int}(h:q):Ni a q:=⟨Int.lt_irrefl a,fun _=>h⟩
def nrn {a:Int}(h:q):Nr a q:=⟨rfl,fun _=>h⟩
def ndi {p:Prop}(hp:p)(h:q):Sx.Nd p q:=⟨hp,fun _=>h⟩
def ndt {p:Prop}(hp:p):Sx.Nd p True:=⟨hp,fun _=>trivial⟩
def v7 {α:Type}(l:List α)(i j:Nat)(f:α->α):(l.modify i f)[j]? =if i=j then l[j]?.map f else l[j]? :=by rw[List.getElem?_modify];by_cases e:i=j<;>cases l[j]? <;>simp[e]
def xZ {L:List Sl}{f:Sl->Sl}(hf:∀s,(f s).used=s.used):∀c,(L.modify c f).countP (·.used)=L.countP (·.used):=by
 induction L with
 |nil=>intro c;simp
 |cons a L d=>intro c;cases c<;>simp[List.countP_cons,hf,d]
section
variable {D :DM}{S N S' N':Sx.Rows}{fr lv i g x y:Int}{K a b c p:Nat}{G:Nat->Nat}{T:List RS}{M:List RN}{cs:Ak}
def Rl.slen (h:Rl G D S N fr lv)(w:WF D K):S.length<=1000:=by obtain⟨T,M,rfl,rfl,h⟩:=h;rw[Rc,h.len];have:=w.lim;omega
def Rl.vld (h:Rl G D S N fr lv):G6 S i g=true↔ ∃k,D.at i g=some k:=by obtain⟨T,M,rfl,rfl,h⟩:=h;exact h.vld
def DM.nod_of {s:Sl}(h:D.L[c]? =some s):D.nod c=s.n:=by unfold DM.nod;rw[h]
def Tj:type_of% @DM.nod_of:=@DM.nod_of
def Fr.refl :Fr S N S N:=⟨Ri _,fun _ _ _=>rfl,fun j h1 h2=>.inl ⟨j,h1,h2,rfl⟩⟩
def To:type_of% @Fr.refl:=@Fr.refl
variable {F:Ar->Ar}
def Fr.mod (h:Fr S N S N'){j:Nat}(hj:j<S.length)(d:cB S j 1=true)(hp:0<=cI S j 3):Fr S N S (N'.modify (cI S j 3).toNat F):=by obtain⟨h1,h2,h3⟩:=h;refine⟨by simpa using h1,fun q hq hn=>?_,h3⟩;have:=hn j hj d;rw[v7,Re (by omega),<-h2 q hq hn]
variable {q:Nod->Nod}
def RlT.nodes (h:RlT G D T M fr lv){r:RS}{s:Sl}(hs:D.L[c]? =some s)(l:s.used=true)(hr:T[c]? =some r){f:RN->RN}(hq:(q s.n).rn G=f (s.n.rn G)):RlT G (D.setN c q) T (M.modify r.p.toNat f) fr lv:=by
 have d:=h.row c s hs;have get:∀j,(D.setN c q).L[j]? =if c=j then D.L[j]?.map (fun s=> {s with n:=q s.n})else D.L[j]? :=fun j=>v7 ..
 refine⟨by unfold DM.setN;simpa using h.len,fun j s' hj=>?_,h.inj,h.free,h.nodup,fun j s' hj hn=>?_,?_⟩;rw[get]at hj;by_cases e:c=j;subst e;rw[Rh rfl,hs]at hj;cases hj;obtain⟨m,h1,h2,h3,h4⟩:=d;rw[hr]at h1;cases h1;refine⟨r,hr,h2,h3,fun _=>?_⟩;obtain⟨o,t⟩:=h4 l;exact⟨o,by rw[v7,Rh rfl,t];simp[hq]⟩;rw[Re e]at hj;obtain⟨m,h1,h2,h3,h4⟩:=h.row j s' hj;refine⟨m,h1,h2,h3,fun k=>?_⟩;obtain⟨o,t⟩:=h4 k;obtain⟨r0,k1,k2,k3,v⟩:=d;rw[hr]at k1;cases k1;have u:r.p≠m.p:=fun he=>e (h.inj c j r m hr h1 (k3.trans l) (h3.trans k) he);have:=(v l).1;exact⟨o,by rw[v7,Re (by omega)];exact t⟩;rw[get]at hj;by_cases e:c=j;subst e;rw[Rh rfl,hs]at hj;cases hj;exact absurd (l.symm.trans hn) (by simp);rw[Re e]at hj;exact h.all j s' hj hn;rw[h.lv];exact congrArg Int.ofNat (xZ (f:=fun s=> {s with n:=q s.n}) (fun _=>rfl) c).symm
def DM.setN_gen :(D.setN c q).gen=D.gen:=by funext j;unfold DM.gen DM.setN;simp only[v7];by_cases e:c=j<;>cases D.L[j]? <;>simp[e]
def Rl.spot (h:Rl G D S N fr lv)(hk:D.at i g=some c):∃s,D.L[c]? =some s/\s.used=true/\c<S.length/\cB S c 1=true/\cI S c 3=atF S i g/\0<=atF S i g/\atF S i g<N.length/\(∀j,D1 N (atF S i g) j=(s.n.rn G).row.getD j (.int 0)):=by
 obtain⟨s,h1,h2,h3,h4,k,l,m⟩:=h.node hk;obtain⟨T,M,rfl,rfl,h⟩:=h;obtain⟨s',r,k1,k2,k3,u,d,o,v,w⟩:=h.at_ hk;rw[h1]at k2;cases k2;have hl:=(QL.1 d).1;obtain⟨A,e,z,t,_⟩:=h.row c s h1;rw[d]at e;cases e;have hc:T[((c:Nat):Int).toNat]? =some r:=by rw[RA];exact d
 refine⟨s,h1,h3,by rw[Rc];exact hl,?_,?_,k,l,m⟩;unfold cB;rw[l6 hc];simp[RS.row,Dat.toBool,t,h3];unfold cI;rw[l6 hc,o];rfl
def DV {t:Str}:z5 (.mk 2 [] [] [] t [])↔N9 t=true:=by simp[z5,U7,AllAs,Z5,a9.k,a9.x,a9.t,a9.y,a9.a,a9.c,a9.size,a9.sizes,a9.depth,a9.depths]
def WF.i64 (w:WF D K){k:Nat}{x:Int}(h:D.C[k]? =some x):I64 (x+1):=by
 obtain⟨a,b,c,d,e,f,h',h1,_,h3,h4⟩:=w.cnt;have:=w.lim;have hx:x∈D.C:=QT h;have hl:(D.L.countP (·.used):Int)<=K:=by have:=List.countP_le_length (p:=fun s:Sl=>s.used) (l:=D.L);omega
 rw[h1]at hx;have:0<=x/\x<=K:=by rcases Rx.1 hx with rfl|hx;omega;exact h4 x hx
 unfold I64;omega
def RlT.cnt (h:RlT G D T M fr lv)(k:Nat):RlT G (D.cnt k) T M fr lv:=⟨h.len,h.row,h.inj,h.free,h.nodup,h.all,h.lv⟩
def Rl.cnt (h:Rl G D S N fr lv)(k:Nat):Rl G (D.cnt k) S N fr lv:=by obtain⟨T,M,h1,h2,h⟩:=h;exact⟨T,M,h1,h2,h.cnt k⟩
def Fq {α:Type}{f:α->Ar}{L:List α}{i:Nat}(q:α->α)(h:∀a,F (f a)=f (q a)):(L.map f).modify i F=(L.modify i q).map f:=by
 apply List.ext_getElem?;intro k;simp only[v7,RL];cases L[k]? with
 |none=>simp|some a=>by_cases e:i=k<;>simp[e,h]
variable {q':RN->RN}
def Rl.mod (h:Rl G D S N fr lv)(hk:D.at i g=some c)(hq:∀r:RN,F r.row=(q' r).row)(d:∀n,(q n).rn G=q' (n.rn G)):Rl G (D.setN c q) S (N.modify (atF S i g).toNat F) fr lv:=by obtain⟨T,M,rfl,rfl,h⟩:=h;obtain⟨s,r,k1,k2,k3,k,e,j,l,m⟩:=h.at_ hk;refine⟨T,M.modify r.p.toNat q',rfl,by rw[j];exact Fq q' hq,h.nodes k2 k3 e (d _)⟩
def Rl.frame (h:Rl G D S N fr lv)(hk:D.at i g=some c)(hF:Fr S N S N'):Fr S N S (N'.modify (atF S i g).toNat F):=by obtain⟨s,h1,h2,h3,h4,d,e,j,k⟩:=h.spot hk;rw[<-d];exact hF.mod h3 h4 (by rw[d];exact e)
variable {f:DM->DM ×Prop}
def PQ (hv:G6 S i g=true){k:Nat}{cs':Ak}(hq:∀r:RN,F r.row=(q' r).row)(j:∀G n,(q n).rn G=q' (n.rn G))(h:cs'=cs.modify k (· +1))(o:N'=N.modify (atF S i g).toNat F)(hf:∀D K c,RlC D S N fr lv cs->WF D K->D.at i g=some c->(f D).1=(D.setN c q).cnt k/\(f D).2):(∃D K,RlC D S N fr lv cs/\WF D K)->mR S N fr lv cs S N' fr lv cs' f:=by rintro ⟨u,v,d,t⟩;subst o;refine⟨?_,fun D K e s=>?_⟩;obtain⟨c,hc⟩:=d.1.vld.1 hv;exact d.1.frame hc To;obtain⟨c,hc⟩:=e.1.vld.1 hv;obtain⟨l,m⟩:=hf D K c e s hc;refine⟨?_,m⟩;rw[l];refine⟨?_,by rw[h,e.2];rfl⟩;have:((D.setN c q).cnt k).gen=D.gen:=DM.setN_gen;rw[this];exact(e.1.mod hc hq (j _)).cnt k
def L6 (hf:∀D K,RlC D S N fr lv cs->WF D K->(f D).1=D/\(f D).2):mR S N fr lv cs S N fr lv cs f:=
 ⟨To,fun D K d e=>⟨by rw[(hf D K d e).1];exact d,(hf D K d e).2⟩⟩
def Rl.none (h:Rl G D S N fr lv)(hv:¬G6 S i g=true):D.at i g=none:=by
 cases e:D.at i g with
 |none=>rfl|some k=>exact absurd (h.vld.2 ⟨k,e⟩) hv
def L5 {α:Type}{L:List α}{i:Nat}{f h:α->α}:(L.modify i f).modify i h=L.modify i (fun a=>h (f a)):=by apply List.ext_getElem?;intro k;simp only[v7];by_cases e:i=k<;>cases L[k]? <;>simp[e]
end
end Go.D
namespace Go.D
open Go Go.Xe Go.Sx
def aD (l:Ah)(c:Nat):Ah:=l.filter (· ≠c)
def fG (l:Ah)(c:Nat)(a:Int):Ah:=(l.flatMap fun(x:Nat)=>if(x:Int)=a then [c,x]else [x])++if a<0 then [c]else []
def DM.opt (D:DM)(x y:Int):Bb Int:=if x=0/\y=0 then some (-1)else match D.at x y with
 |some a=>some a|none=>none
def DM.kids (D:DM)(p c:Nat)(l:Ah)(par:Int)(k:Nat):DM:=((D.setN p fun n=> {n with ch:=l}).setN c fun n=> {n with par:=par}).cnt k
open Classical in
def wE (D:DM)(i g j k x y:Int):DM×Int:=match D.at i g,D.at j k,D.opt x y with
 |some p,some c,some a=>if(D.nod p).kind≠1 then(D,1)else if(D.nod c).par≠ -1\/Abv D c p then(D,10)else if 0<=a/\a.toNat∉(D.nod p).ch then(D,1)else(D.kids p c (fG (D.nod p).ch c a) p 3,0)
 |_,_,_=>(D,11)
def AY (D:DM)(i g:Int):DM×Int:=match D.at i g with
 |some c=>if(D.nod c).par= -1 then(D,10)else(D.kids (D.nod c).par.toNat c (aD (D.nod (D.nod c).par.toNat).ch c) (-1) 4,0)
 |none=>(D,11)
def Lm (D:DM)(i g x y:Int):DM×Int:=match D.at i g,D.opt x y with
 |some c,some a=>if(D.nod c).par= -1 then(D,10)else if a=c\/(0<=a/\a.toNat∉(D.nod (D.nod c).par.toNat).ch)then(D,1)else(D.kids (D.nod c).par.toNat c (fG (aD (D.nod (D.nod c).par.toNat).ch c) c a) (D.nod c).par 5,0)
 |_,_=>(D,11)
def ET :Ar->Prop
 | [.int i,.int g,.int j,.int k,.int x,.int y,.lst S,.int fr,.int lv,.int a,.int b,.int c,.int d,.int e,.int f,.int h,.int m,.lst _,.lst N]=>U32 i/\U32 g/\U32 j/\U32 k/\U32 x/\U32 y/\Dc S N fr lv [a,b,c,d,e,f,h,m]|_=>False
def dN :Ar->Ar->Prop
 | [.int i,.int g,.int j,.int k,.int x,.int y,.lst S,.int fr,.int lv,.int a,.int b,.int c,.int d,.int e,.int f,.int h,.int m,.lst _,.lst N],[.int r,.lst S',.int fr',.int lv',.int a',.int b',.int c',.int d',.int e',.int f',.int h',.int m',.lst _,.lst N']=>
  mR S N fr lv [a,b,c,d,e,f,h,m] S' N' fr' lv' [a',b',c',d',e',f',h',m'] fun D=>((wE D i g j k x y).1,r=(wE D i g j k x y).2)
 |_,_=>False
def AZ :Ar->Prop
 | [.int i,.int g,.lst S,.int fr,.int lv,.int a,.int b,.int c,.int d,.int e,.int f,.int h,.int m,.lst _,.lst N]=>U32 i/\U32 g/\Dc S N fr lv [a,b,c,d,e,f,h,m]|_=>False
def uG :Ar->Ar->Prop
 | [.int i,.int g,.lst S,.int fr,.int lv,.int a,.int b,.int c,.int d,.int e,.int f,.int h,.int m,.lst _,.lst N],[.int r,.lst S',.int fr',.int lv',.int a',.int b',.int c',.int d',.int e',.int f',.int h',.int m',.lst _,.lst N']=>
  mR S N fr lv [a,b,c,d,e,f,h,m] S' N' fr' lv' [a',b',c',d',e',f',h',m'] fun D=>((AY D i g).1,r=(AY D i g).2)
 |_,_=>False
def PI :Ar->Ar->Prop
 | [.int i,.int g,.int x,.int y,.lst S,.int fr,.int lv,.int a,.int b,.int c,.int d,.int e,.int f,.int h,.int m,.lst _,.lst N],[.int r,.lst S',.int fr',.int lv',.int a',.int b',.int c',.int d',.int e',.int f',.int h',.int m',.lst _,.lst N']=>
  mR S N fr lv [a,b,c,d,e,f,h,m] S' N' fr' lv' [a',b',c',d',e',f',h',m'] fun D=>((Lm D i g x y).1,r=(Lm D i g x y).2)
 |_,_=>False
def cIns:=mkD "ins" [hV,hV,hV] ET [iV] dN
def cRem:=mkD "rem" [hV] AZ [iV] uG
def GL :Ay->List (Nat×(Fm->SS->K0)):=aR
def Mr :Nat->List (Ay×Con)
 |_=>[(LVn,cYes "lives")]
def FG :Nat->Aw->I9
 |_,P=>(159,sdel P U0 tHd 2)::(73,wkM U0 (sins P U0 tHd 2))::bN 0 P
