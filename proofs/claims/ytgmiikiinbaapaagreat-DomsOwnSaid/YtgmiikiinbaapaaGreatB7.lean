/- The DOM: changes of a node's own fields: the conditions hold.
  Conditions: none. -/
import Derived.Test.YtgmiikiinbaapaaGreatA5
set_option linter.all false
noncomputable section
namespace Go.D
open Go Go.Xe Go.Sx
variable {q:Prop}
def nin {a:Int}(h:q):Ni a q:=⟨Int.lt_irrefl a,fun _=>h⟩
def nrn {a:Int}(h:q):Nr a q:=⟨rfl,fun _=>h⟩
def ndi {p:Prop}(hp:p)(h:q):Sx.Nd p q:=⟨hp,fun _=>h⟩
def ndt {p:Prop}(hp:p):Sx.Nd p True:=⟨hp,fun _=>trivial⟩
def j9 {α:Type}(l:List α)(i j:Nat)(f:α->α):(l.modify i f)[j]? =if i=j then l[j]?.map f else l[j]? :=by rw[List.getElem?_modify];by_cases e:i=j<;>cases l[j]? <;>simp[e]
def xS {L:List Sl}{f:Sl->Sl}(hf:∀s,(f s).used=s.used):∀c,(L.modify c f).countP (·.used)=L.countP (·.used):=by
 induction L with
 |nil=>intro c;simp
 |cons a L d=>intro c;cases c<;>simp[List.countP_cons,hf,d]
section
variable {D :DM}{S N S' N':Sx.Rows}{fr lv i g x y:Int}{K a b c p:Nat}{G:Nat->Nat}{T:List RS}{M:List RN}{cs:Ak}
def Rl.slen (h:Rl G D S N fr lv)(w:WF D K):S.length<=1000:=by obtain⟨T,M,rfl,rfl,h⟩:=h;rw[PD,h.len];have:=w.lim;omega
def Rl.vld (h:Rl G D S N fr lv):v9 S i g=true↔ ∃k,D.at i g=some k:=by obtain⟨T,M,rfl,rfl,h⟩:=h;exact h.vld
def DM.nod_of {s:Sl}(h:D.L[c]? =some s):D.nod c=s.n:=by unfold DM.nod;rw[h]
def Rt:type_of% @DM.nod_of:=@DM.nod_of
def Fr.refl :Fr S N S N:=⟨PH _,fun _ _ _=>rfl,fun j h1 h2=>.inl ⟨j,h1,h2,rfl⟩⟩
def Fr.mod (h:Fr S N S N'){j:Nat}(hj:j<S.length)(d:cB S j 1=true){F:Ar->Ar}(hp:0<=cI S j 3):Fr S N S (N'.modify (cI S j 3).toNat F):=by obtain⟨h1,h2,h3⟩:=h;refine⟨by simpa using h1,fun q hq hn=>?_,h3⟩;have:=hn j hj d;rw[j9,PE (by omega),<-h2 q hq hn]
variable {q:Nod->Nod}
def RlT.nodes (h:RlT G D T M fr lv){r:RS}{s:Sl}(hs:D.L[c]? =some s)(l:s.used=true)(hr:T[c]? =some r){f:RN->RN}(hq:(q s.n).rn G=f (s.n.rn G)):RlT G (D.setN c q) T (M.modify r.p.toNat f) fr lv:=by
 have d:=h.row c s hs;have get:∀j,(D.setN c q).L[j]? =if c=j then D.L[j]?.map (fun s=> {s with n:=q s.n})else D.L[j]? :=fun j=>j9 ..
 refine⟨by unfold DM.setN;simpa using h.len,fun j s' hj=>?_,h.inj,h.free,h.nodup,fun j s' hj hn=>?_,?_⟩;rw[get]at hj;by_cases e:c=j;subst e;rw[PG rfl,hs]at hj;cases hj;obtain⟨m,h1,h2,h3,h4⟩:=d;rw[hr]at h1;cases h1;refine⟨r,hr,h2,h3,fun _=>?_⟩;obtain⟨o,t⟩:=h4 l;exact⟨o,by rw[j9,PG rfl,t];simp[hq]⟩;rw[PE e]at hj;obtain⟨m,h1,h2,h3,h4⟩:=h.row j s' hj;refine⟨m,h1,h2,h3,fun k=>?_⟩;obtain⟨o,t⟩:=h4 k;obtain⟨r0,k1,k2,k3,v⟩:=d;rw[hr]at k1;cases k1;have u:r.p≠m.p:=fun he=>e (h.inj c j r m hr h1 (k3.trans l) (h3.trans k) he);have:=(v l).1;exact⟨o,by rw[j9,PE (by omega)];exact t⟩;rw[get]at hj;by_cases e:c=j;subst e;rw[PG rfl,hs]at hj;cases hj;exact absurd (l.symm.trans hn) (by simp);rw[PE e]at hj;exact h.all j s' hj hn;rw[h.lv];exact congrArg Int.ofNat (xS (f:=fun s=> {s with n:=q s.n}) (fun _=>rfl) c).symm
def DM.setN_gen :(D.setN c q).gen=D.gen:=by funext j;unfold DM.gen DM.setN;simp only[j9];by_cases e:c=j<;>cases D.L[j]? <;>simp[e]
def Rl.spot (h:Rl G D S N fr lv)(hk:D.at i g=some c):∃s,D.L[c]? =some s/\s.used=true/\c<S.length/\cB S c 1=true/\cI S c 3=atF S i g/\0<=atF S i g/\atF S i g<N.length/\(∀j,z4 N (atF S i g) j=(s.n.rn G).row.getD j (.int 0)):=by
 obtain⟨s,h1,h2,h3,h4,k,l,m⟩:=h.node hk;obtain⟨T,M,rfl,rfl,h⟩:=h;obtain⟨s',r,k1,k2,k3,u,d,o,v,w⟩:=h.at_ hk;rw[h1]at k2;cases k2;have hl:=(Po.1 d).1;obtain⟨A,e,z,t,_⟩:=h.row c s h1;rw[d]at e;cases e;have hc:T[((c:Nat):Int).toNat]? =some r:=by rw[Qd];exact d
 refine⟨s,h1,h3,by rw[PD];exact hl,?_,?_,k,l,m⟩;unfold cB;rw[i4 hc];simp[RS.row,Dat.toBool,t,h3];unfold cI;rw[i4 hc,o];rfl
def pS {t:Str}:W0 (.mk 2 [] [] [] t [])↔I0 t=true:=by simp[W0,kG,AllAs,V8,c9.k,c9.x,c9.t,c9.y,c9.a,c9.c,c9.size,c9.sizes,c9.depth,c9.depths]
def WF.i64 (w:WF D K){k:Nat}{x:Int}(h:D.C[k]? =some x):I64 (x+1):=by
 obtain⟨a,b,c,d,e,f,h',h1,_,h3,h4⟩:=w.cnt;have:=w.lim;have hx:x∈D.C:=Pv h;have hl:(D.L.countP (·.used):Int)<=K:=by have:=List.countP_le_length (p:=fun s:Sl=>s.used) (l:=D.L);omega
 rw[h1]at hx;have:0<=x/\x<=K:=by rcases Qa.1 hx with rfl|hx;omega;exact h4 x hx
 unfold I64;omega
def RlT.cnt (h:RlT G D T M fr lv)(k:Nat):RlT G (D.cnt k) T M fr lv:=⟨h.len,h.row,h.inj,h.free,h.nodup,h.all,h.lv⟩
def Rl.cnt (h:Rl G D S N fr lv)(k:Nat):Rl G (D.cnt k) S N fr lv:=by obtain⟨T,M,h1,h2,h⟩:=h;exact⟨T,M,h1,h2,h.cnt k⟩
variable {F:Ar->Ar}
def Fe {α:Type}{f:α->Ar}{L:List α}{i:Nat}(q:α->α)(h:∀a,F (f a)=f (q a)):(L.map f).modify i F=(L.modify i q).map f:=by
 apply List.ext_getElem?;intro k;simp only[j9,Qm];cases L[k]? with
 |none=>simp|some a=>by_cases e:i=k<;>simp[e,h]
def Rl.mod (h:Rl G D S N fr lv)(hk:D.at i g=some c){q:Nod->Nod}{q':RN->RN}{F:Ar->Ar}(hq:∀r:RN,F r.row=(q' r).row)(d:∀n,(q n).rn G=q' (n.rn G)):Rl G (D.setN c q) S (N.modify (atF S i g).toNat F) fr lv:=by obtain⟨T,M,rfl,rfl,h⟩:=h;obtain⟨s,r,k1,k2,k3,k,e,j,l,m⟩:=h.at_ hk;refine⟨T,M.modify r.p.toNat q',rfl,by rw[j];exact Fe q' hq,h.nodes k2 k3 e (d _)⟩
def Rl.frame (h:Rl G D S N fr lv)(hk:D.at i g=some c)(hF:Fr S N S N'):Fr S N S (N'.modify (atF S i g).toNat F):=by obtain⟨s,h1,h2,h3,h4,d,e,j,k⟩:=h.spot hk;rw[<-d];exact hF.mod h3 h4 (by rw[d];exact e)
variable {f:DM->DM ×Prop}
def Fs (hv:v9 S i g=true){k:Nat}{q':RN->RN}{cs':Ak}(hq:∀r:RN,F r.row=(q' r).row)(j:∀G n,(q n).rn G=q' (n.rn G))(h:cs'=cs.modify k (· +1))(o:N'=N.modify (atF S i g).toNat F)(hf:∀D K c,RlC D S N fr lv cs->WF D K->D.at i g=some c->(f D).1=(D.setN c q).cnt k/\(f D).2):(∃D K,RlC D S N fr lv cs/\WF D K)->X0 S N fr lv cs S N' fr lv cs' f:=by rintro ⟨D0,u,d,t⟩;subst o;refine⟨?_,fun D K e s=>?_⟩;obtain⟨c,hc⟩:=d.1.vld.1 hv;exact d.1.frame hc Fr.refl;obtain⟨c,hc⟩:=e.1.vld.1 hv;obtain⟨l,m⟩:=hf D K c e s hc;refine⟨?_,m⟩;rw[l];refine⟨?_,by rw[h,e.2];rfl⟩;have:((D.setN c q).cnt k).gen=D.gen:=DM.setN_gen;rw[this];exact(e.1.mod hc hq (j _)).cnt k
def C8 (hf:∀D K,RlC D S N fr lv cs->WF D K->(f D).1=D/\(f D).2):X0 S N fr lv cs S N fr lv cs f:=
 ⟨Fr.refl,fun D K d e=>⟨by rw[(hf D K d e).1];exact d,(hf D K d e).2⟩⟩
def Rl.none (h:Rl G D S N fr lv)(hv:¬v9 S i g=true):D.at i g=none:=by
 cases e:D.at i g with
 |none=>rfl|some k=>exact absurd (h.vld.2 ⟨k,e⟩) hv
def vcStx_ok :vcStx:=by
 unfold vcStx;intro i g t S fr lv c0 B C E H I J L st N h;obtain⟨hi,hg,hp⟩:=h;have hp':=hp;obtain⟨D,K,⟨z,hc⟩,u⟩:=hp;have j:u7 [.int i,.int g,.lst S,.int fr,.int lv,.int c0,.int B,.int C,.int E,.int H,.int I,.int J,.int L,.lst st]:=⟨hi,hg,z.slen u⟩
 refine nin (nrn (ndi j fun b hb=>⟨fun l=>?_,fun A=>nin (nrn (ndt ?_))⟩))
 ·have hb:b=v9 S i g:=hb;subst hb;obtain⟨c,d⟩:=z.vld.1 l;obtain⟨s,h1,h2,h3,h4,O,P,o,w⟩:=z.spot d;have bad:((cI N (atF S i g) 0)≠2\/I0 t=false)->vcStx0 S i g t fr lv c0 B C E H I J L st N:=by
   intro v;unfold vcStx0;refine nin (nrn (ndt (C8 fun D K m u=>?_)));obtain⟨c,d⟩:=m.1.vld.1 l;obtain⟨s,h1,h2,h3,h4,O,P,o,w⟩:=m.1.spot d;have:(D.nod c).kind≠2\/I0 t=false:=by
    rw[Rt h1];have:cI N (atF S i g) 0=s.n.kind:=by unfold cI;rw[w];rfl
    rwa[this]at v
   unfold Z3;rw[d];simp only;rw[PG this];exact⟨rfl,rfl⟩
  refine nin (nrn (ndi j fun p hp=>?_));have hp:p=atF S i g:=hp;subst hp;refine ndi (by omega) (ndi o ⟨fun hk=>ndi ⟨.mk 2 [] [] [] t [],rfl,rfl,rfl,rfl,rfl,rfl⟩ fun n hn=>?_,fun hk=>bad (.inl hk)⟩);have hv:=(hn (.mk 2 [] [] [] t []) ⟨rfl,rfl,rfl,rfl,rfl,rfl⟩).1;rw[pS]at hv;refine⟨fun h0=>nin (nrn (ndi j fun p hp=>?_)),fun h0=>bad (.inr (by simpa using fun h=>h0 (hv.2 h)))⟩;have hp:p=atF S i g:=hp;subst hp;refine ndi (by omega) (ndi o (ndi (by omega) (ndi o (ndi (u.i64 (k:=6) (by rw[<-hc];rfl)) (nin (nrn (ndt ?_)))))));refine Fs (q:=fun n=> {n with text:=t}) (q':=fun r=> {r with text:=t}) (F:=fun r=>r.set 3 (.str t)) (k:=6) l (fun _=>rfl) (fun _ _=>rfl) rfl rfl (fun D K c m u d=>?_) hp';obtain⟨s,h1,h2,h3,h4,O,P,o,w⟩:=m.1.spot d;have e:cI N (atF S i g) 0=s.n.kind:=by unfold cI;rw[w];rfl
  rw[e]at hk;unfold Z3;rw[d];simp only;rw[Rt h1,PE (by simp[hk,hv.1 h0])];exact⟨rfl,rfl⟩
 have hb:b=v9 S i g:=hb;subst hb;refine C8 fun D K m u=>?_;unfold Z3;rw[m.1.none A];exact⟨rfl,rfl⟩
def B2 {α:Type}{L:List α}{i:Nat}{f h:α->α}:(L.modify i f).modify i h=L.modify i (fun a=>h (f a)):=by apply List.ext_getElem?;intro k;simp only[j9];by_cases e:i=k<;>cases L[k]? <;>simp[e]
def vcPlk_ok :vcPlk:=by
 unfold vcPlk;intro i g t z b S fr lv c0 A B C E H I J st N h;obtain⟨hi,hg,hp⟩:=h;have hp':=hp;obtain⟨D,K,⟨u,hc⟩,o⟩:=hp;have j:u7 [.int i,.int g,.lst S,.int fr,.int lv,.int c0,.int A,.int B,.int C,.int E,.int H,.int I,.int J,.lst st]:=⟨hi,hg,u.slen o⟩
 refine nin (nrn (ndi j fun w hb=>⟨fun l=>?_,fun v=>nin (nrn (ndt ?_))⟩))
 ·have hb:w=v9 S i g:=hb;subst hb;obtain⟨c,d⟩:=u.vld.1 l;obtain⟨s,h1,h2,h3,h4,O,P,m,L⟩:=u.spot d;have kd:∀ {D:DM} {c:Nat},RlC D S N fr lv [c0,A,B,C,E,H,I,J]->D.at i g=some c->(D.nod c).kind=cI N (atF S i g) 0:=by intro D c e d;obtain⟨s,h1,h2,h3,h4,O,P,m,L⟩:=e.1.spot d;rw[Rt h1];unfold cI;rw[L];rfl
  refine nin (nrn (ndi j fun p hp=>?_));have hp:p=atF S i g:=hp;subst hp;refine ndi (by omega) (ndi m ⟨fun hk=>nin (nrn (ndi j fun p hp=>?_)),fun hk=>nin (nrn (ndt (C8 fun D K e o=>?_)))⟩);have hp:p=atF S i g:=hp;subst hp;refine ndi (by omega) (ndi m (ndi (by omega) (ndi m (ndi (by omega) (ndi m (ndi (by omega) (ndi m (ndi (o.i64 (k:=7) (by rw[<-hc];rfl)) (nin (nrn (ndt ?_)))))))))));refine Fs (q:=fun n=> {n with top:=t,size:=z,pin:=b}) (q':=fun r=> {r with top:=t,size:=z,pin:=b}) (F:=fun r=>((r.set 4 (.int t)).set 5 (.int z)).set 6 (.bool b)) (k:=7) l (fun _=>rfl) (fun _ _=>rfl) rfl ?_ (fun D K c e o d=>?_) hp';unfold a8;rw[B2,B2];unfold lE;rw[d];simp only;rw[PE (by rw[kd e d];exact fun h=>h hk)];exact⟨rfl,rfl⟩;obtain⟨c,d⟩:=e.1.vld.1 l;unfold lE;rw[d];simp only;rw[PG (by rw[kd e d];exact hk)];exact⟨rfl,rfl⟩
 have hb:w=v9 S i g:=hb;subst hb;refine C8 fun D K e o=>?_;unfold lE;rw[e.1.none v];exact⟨rfl,rfl⟩
end
end Go.D
namespace Go.D
open Go Go.Xe Go.Sx
def J0 (l:Ah)(c:Nat):Ah:=l.filter (· ≠c)
def Q7 (l:Ah)(c:Nat)(a:Int):Ah:=(l.flatMap fun(x:Nat)=>if(x:Int)=a then [c,x]else [x])++if a<0 then [c]else []
def DM.opt (D:DM)(x y:Int):Bb Int:=if x=0/\y=0 then some (-1)else match D.at x y with
 |some a=>some a|none=>none
def DM.kids (D:DM)(p c:Nat)(l:Ah)(par:Int)(k:Nat):DM:=((D.setN p fun n=> {n with ch:=l}).setN c fun n=> {n with par:=par}).cnt k
open Classical in
def bX (D:DM)(i g j k x y:Int):DM×Int:=match D.at i g,D.at j k,D.opt x y with
 |some p,some c,some a=>if(D.nod p).kind≠1 then(D,1)else if(D.nod c).par≠ -1\/Abv D c p then(D,10)else if 0<=a/\a.toNat∉(D.nod p).ch then(D,1)else(D.kids p c (Q7 (D.nod p).ch c a) p 3,0)
 |_,_,_=>(D,11)
def jJ (D:DM)(i g:Int):DM×Int:=match D.at i g with
 |some c=>if(D.nod c).par= -1 then(D,10)else(D.kids (D.nod c).par.toNat c (J0 (D.nod (D.nod c).par.toNat).ch c) (-1) 4,0)
 |none=>(D,11)
def aZ (D:DM)(i g x y:Int):DM×Int:=match D.at i g,D.opt x y with
 |some c,some a=>if(D.nod c).par= -1 then(D,10)else if a=c\/(0<=a/\a.toNat∉(D.nod (D.nod c).par.toNat).ch)then(D,1)else(D.kids (D.nod c).par.toNat c (Q7 (J0 (D.nod (D.nod c).par.toNat).ch c) c a) (D.nod c).par 5,0)
 |_,_=>(D,11)
def zW :Ar->Prop
 | [.int i,.int g,.int j,.int k,.int x,.int y,.lst S,.int fr,.int lv,.int a,.int b,.int c,.int d,.int e,.int f,.int h,.int m,.lst _,.lst N]=>U32 i/\U32 g/\U32 j/\U32 k/\U32 x/\U32 y/\pJ S N fr lv [a,b,c,d,e,f,h,m]|_=>False
def Z9 :Ar->Ar->Prop
 | [.int i,.int g,.int j,.int k,.int x,.int y,.lst S,.int fr,.int lv,.int a,.int b,.int c,.int d,.int e,.int f,.int h,.int m,.lst _,.lst N],[.int r,.lst S',.int fr',.int lv',.int a',.int b',.int c',.int d',.int e',.int f',.int h',.int m',.lst _,.lst N']=>
  X0 S N fr lv [a,b,c,d,e,f,h,m] S' N' fr' lv' [a',b',c',d',e',f',h',m'] fun D=>((bX D i g j k x y).1,r=(bX D i g j k x y).2)
 |_,_=>False
def AS :Ar->Prop
 | [.int i,.int g,.lst S,.int fr,.int lv,.int a,.int b,.int c,.int d,.int e,.int f,.int h,.int m,.lst _,.lst N]=>U32 i/\U32 g/\pJ S N fr lv [a,b,c,d,e,f,h,m]|_=>False
def tR :Ar->Ar->Prop
 | [.int i,.int g,.lst S,.int fr,.int lv,.int a,.int b,.int c,.int d,.int e,.int f,.int h,.int m,.lst _,.lst N],[.int r,.lst S',.int fr',.int lv',.int a',.int b',.int c',.int d',.int e',.int f',.int h',.int m',.lst _,.lst N']=>
  X0 S N fr lv [a,b,c,d,e,f,h,m] S' N' fr' lv' [a',b',c',d',e',f',h',m'] fun D=>((jJ D i g).1,r=(jJ D i g).2)
 |_,_=>False
def Ff :Ar->Prop
 | [.int i,.int g,.int x,.int y,.lst S,.int fr,.int lv,.int a,.int b,.int c,.int d,.int e,.int f,.int h,.int m,.lst _,.lst N]=>U32 i/\U32 g/\U32 x/\U32 y/\pJ S N fr lv [a,b,c,d,e,f,h,m]|_=>False
def cD :Ar->Ar->Prop
 | [.int i,.int g,.int x,.int y,.lst S,.int fr,.int lv,.int a,.int b,.int c,.int d,.int e,.int f,.int h,.int m,.lst _,.lst N],[.int r,.lst S',.int fr',.int lv',.int a',.int b',.int c',.int d',.int e',.int f',.int h',.int m',.lst _,.lst N']=>
  X0 S N fr lv [a,b,c,d,e,f,h,m] S' N' fr' lv' [a',b',c',d',e',f',h',m'] fun D=>((aZ D i g x y).1,r=(aZ D i g x y).2)
 |_,_=>False
def cIns:=mkD "ins" [hV,hV,hV] zW [iV] Z9
def cRem:=mkD "rem" [hV] AS [iV] tR
def cMov:=mkD "mov" [hV,hV] Ff [iV] cD
def wO :Ay->List (Nat×(Fm->SS->G5)):=T9
def Gf :Nat->List (Ay×Con)
 |_=>[(LVn,cYes "lives")]
def AM :Nat->Aw->E7
 |_,P=>(143,sdel P U0 tHd 2)::(50,wkM U0 (sins P U0 tHd 2))::T5 0 P
