/- Trees: the condition of copied holds.
  Conditions: none. -/
import Derived.Test.YtoegfalhkackeaaGreatA4
import Derived.Test.YtoegfalhkackeaaGreatB2
set_option maxRecDepth 100000
set_option linter.all false
noncomputable section
namespace Go.D
open Go Go.Xe Go.Sx
theorem set6 {L:Sx.Rows}{i:Int}{a b c d e f:Dat}(h0:0<=i)(h:i<(L.length:Int))(hr:∀r∈L,r.length=6):i6 (i6 (i6 (i6 (i6 (i6 L i 0 a) i 1 b) i 2 c) i 3 d) i 4 e) i 5 f=L.set i.toNat [a,b,c,d,e,f]:=by
 obtain⟨r,hg⟩:=Sx.get_at h0 h;have g:=hr r (Tv hg)
 match r,g with
 | [_,_,_,_,_,_],_=>refine List.ext_getElem? fun j=>?_;simp only[i6,List.getElem?_modify,List.getElem?_set];by_cases e:i.toNat=j;subst e;simp[hg];omega;grind
def Ok {α:Type}{L:List α}{i:Int}{a:α}(h0:0<=i)(h:i<(L.length:Int)):(L.set i.toNat a).take (i+1).toNat=L.take i.toNat++ [a]:=by rw[v7 h0 (by rw[List.getElem?_set_self (by omega)]),List.take_set_of_le (TK _)]
def vQ (b:Bool)(l m:List a9):strips b (l++m)=strips b l++strips b m:=by
 induction l with
 |nil=>simp[strips]|cons a l c=>simp[strips,c]
def Hd (b:Bool)(l:List a9):(strips b l).length=l.length:=by
 induction l with
 |nil=>simp[strips]|cons a l c=>simp[strips,c]
def PF (c:a9):c.row.length=6:=by rw[Q3];rfl
theorem dP :∀ {l:List a9} {k:Nat} {c:a9},l[k]? =some c->szRs (rows c.c)<szRs (rows l)
 | [],k,c,h=>by grind|a::l,0,c,h=>by cases h;show _<szR a.row+1+szRs (rows l);rw[Q3];simp only[szR,szD];omega
 |a::l,k+1,c,h=>by have:=dP (by simpa using h);show _<szR a.row+1+szRs (rows l);omega
def AW {s:a9}{k:Int}{t y x:Str}{a c:Sx.Rows}(h:isT s k t y a x c): [Dat.int k,.str t,.str y,.lst a,.str x,.lst c]=s.row:=by obtain⟨rfl,rfl,rfl,rfl,rfl,rfl⟩:=h;exact(Q3 s).symm
theorem LS (n:Nat)(s:a9)(b:Bool)(f:J3 s)(hn:szRs (rows s.c)<n+1)(k:Int)(D:Sx.Rows)(hi:L9 [.lst (rows s.c),.bool b] [.int k,.lst D])(hk:k<((rows s.c).length:Int)):vcCpd0 n k (rows s.c) b D:=by
 obtain⟨k0,k1,k2,k3⟩:=hi;obtain⟨k3,k4⟩:=k3 s.c rfl;rw[TG]at k1 k2 hk;obtain⟨c,hc⟩:=Sx.get_at k0 hk;have f:=(B9 s).1 f;have i:=(bB f.1).1;have g:=Q9 f.2 hc;have d:=dP hc;have d:szRs (rows c.c)<n:=by omega
 simp only[vcCpd0,Nd,Nr,Ni,ln,I64,cI,cS,cL,G5 hc,t0,t1,t2,t3,t4,t5,V8,A6,T8,TG,pB,xS,Y4,LU,J9,u9,forall_eq,exists_eq_left,UC,Uf,Ux,UG,k2];refine⟨by omega,fun _=>⟨hk,fun _=>⟨⟨g,d⟩,fun _ k' t y a x c' j=>⟨by omega,fun _=>⟨by omega,fun _=>⟨Int.lt_irrefl _,fun _=>⟨by omega,fun _=>⟨⟨by omega,by omega⟩,fun _=>⟨by omega,fun _=>⟨by omega,fun _=>⟨?_,fun _=>by omega⟩⟩⟩⟩⟩⟩⟩⟩⟩⟩⟩;rw[set6 k0 (by omega) k4,AW j];refine⟨by omega,by grind,by grind,fun l e=>?_⟩;rw[<-jF.mp e,Ok k0 (by omega),v7 k0 hc,vQ,k3];refine⟨by simp[rows,strips],fun r hr=>?_⟩;rcases List.mem_or_eq_of_mem_set hr with h|rfl;grind;exact PF _
theorem vcCpd_ok (n:Nat):vcCpd n:=by
 rintro _ _ _ _ _ _ b ⟨⟨s,⟨rfl,rfl,rfl,rfl,rfl,rfl⟩,g⟩,hn⟩;have B:=LS n s b g hn;have f:=(B9 s).1 g;obtain⟨i,l⟩:=bB f.1;have S:L9 [.lst (rows s.c),.bool b] [.int 0,.lst (pQ (List.replicate ((ln (rows s.c))).toNat [(.int (0)),(.str ([]:Ae)),(.str ([]:Ae)),(.lst ([]:Sx.Rows)),(.str ([]:Ae)),(.lst ([]:Sx.Rows))]:Sx.Rows) 0 (ln (rows s.c)))]:=by refine⟨by omega,by omega,by simp[pQ],fun c e=>⟨by simp[strips],fun r hr=>?_⟩⟩;rw[(List.mem_replicate.1 (UR hr)).2];rfl
 have F:∀k D d,L9 [.lst (rows s.c),.bool b] [.int k,.lst D]-> ¬k<ln (rows s.c)->d=s.a.map Att.row->Y4 [.int s.k,.str s.t,.str s.y,.lst (s.a.map Att.row),.str s.x,.lst (rows s.c),.bool b] [.int s.k,.str s.t,.str (if b then s.y else []),.lst d,.str s.x,.lst D]:=by intro k D d ⟨k0,k1,k2,k3⟩ hk e;obtain⟨k3,_⟩:=k3 s.c rfl;unfold ln at hk;rw[B0 (by omega),B0 (by grind)]at k3;intro s' h;rw[u9]at h;subst h;subst e;subst k3;cases s';exact⟨rfl,rfl,rfl,rfl,rfl,rfl⟩
 have e1:d8 2 0 []++s.a.map Att.row=s.a.map Att.row:=rfl;have e2:pQ (Sx.over (d8 2 0 []) 0 (s.a.map Att.row)) 0 (ln (s.a.map Att.row))=s.a.map Att.row:=by simp[pQ,Sx.over,d8,ln,<-List.map_take]
 have e3:ln (Sx.over (d8 2 0 []) 0 (s.a.map Att.row))=ln (s.a.map Att.row):=by simp[Sx.over,d8,ln]
 have e4:ln (s.a.map Att.row)=0->([]:Sx.Rows)=s.a.map Att.row:=fun h=>by
  have:s.a=[]:=by simpa [ln]using h
  rw[this];rfl
 have m:ln (rows s.c)<=16:=by simp[ln];omega
 have o:ln (s.a.map Att.row)<=8:=by simp[ln];omega
 have p:0<=ln (rows s.c):=by simp[ln]
 have q:0<=ln (s.a.map Att.row):=by simp[ln]
 have j:ln (List.replicate (ln (rows s.c)).toNat [(.int (0)),(.str ([]:Ae)),(.str ([]:Ae)),(.lst ([]:Sx.Rows)),(.str ([]:Ae)),(.lst ([]:Sx.Rows))]:Sx.Rows)=ln (rows s.c):=by simp[ln]
 simp only[e1,e2,e3,j];cases b;all_goals
  simp only[UF,if_false,if_true]at F;simp only[Nd,Nr,Ni,false_implies,Uf,UC,not_false_eq_true,UF,not_true_eq_false,UG]
  repeat' with_reducible first|exact trivial|exact S|exact B _ _ ‹_› ‹_› |exact F _ _ _ ‹_› ‹_› rfl|exact F _ _ _ ‹_› ‹_› (e4 ‹_›)|omega| (refine TP ?_ ?_)|intro _
def DM.nod (D:DM)(c:Nat):Nod:=match D.L[c]? with
 |some s=>s.n|none=>⟨0,[],[],[],0,0,false, -1,[]⟩
def DM.setN (D:DM)(c:Nat)(q:Nod->Nod):DM:= {D with L:=D.L.modify c fun s=> {s with n:=q s.n}}
def DM.cnt (D:DM)(k:Nat):DM:= {D with C:=D.C.modify k (· +1)}
def QW (D:DM)(i g:Int)(t:Str):DM×Int:=match D.at i g with
 |none=>(D,11)
 |some c=>if(D.nod c).kind≠2\/E8 t=false then(D,1)else((D.setN c fun n=> {n with text:=t}).cnt 6,0)
def RlC (D:DM)(S N:Sx.Rows)(fr lv:Int)(cs:Ak):Prop:=Rl D.gen D S N fr lv/\cs=D.C
def Fr (S N S' N':Sx.Rows):Prop:=N.length<=N'.length/\(∀k:Nat,k<N.length->(∀j:Nat,j<S.length->cB S j 1=true->cI S j 3≠k)->N'[k]? =N[k]?)/\
 ∀i:Nat,i<S'.length->cB S' i 1=true->(∃j:Nat,j<S.length/\cB S j 1=true/\cI S j 3=cI S' i 3)\/(N.length:Int)<=cI S' i 3
def DO (S N:Sx.Rows)(fr lv:Int)(cs:Ak):Prop:=∃D K,RlC D S N fr lv cs/\WF D K
def nP (S N:Sx.Rows)(fr lv:Int)(cs:Ak)(S' N':Sx.Rows)(fr' lv':Int)(cs':Ak)(f:DM->DM×Prop):Prop:=
 Fr S N S' N'/\ ∀D K,RlC D S N fr lv cs->WF D K->RlC (f D).1 S' N' fr' lv' cs'/\(f D).2
def SK :Nat->List (Ay×Con)
 |_=>[(42,cChk),(LVn,cYes "lives")]
def cH :Nat->Aw->G1
 |_,P=>[(68,kro P U0 cAt),(97,kro P U0 cVld),(71,kro P U0 cPlc),(69,kro P U0 cAbo)]
open Go Go.Xe Go.Sx
variable {q:Prop}
def nin {a:Int}(h:q):Ni a q:=⟨Int.lt_irrefl a,fun _=>h⟩
def nrn {a:Int}(h:q):Nr a q:=⟨rfl,fun _=>h⟩
def ndi {p:Prop}(hp:p)(h:q):Sx.Nd p q:=⟨hp,fun _=>h⟩
def ndt {p:Prop}(hp:p):Sx.Nd p True:=⟨hp,fun _=>trivial⟩
def m9 {α:Type}(l:List α)(i j:Nat)(f:α->α):(l.modify i f)[j]? =if i=j then l[j]?.map f else l[j]? :=by rw[List.getElem?_modify];by_cases e:i=j<;>cases l[j]? <;>simp[e]
def yO {L:List Sl}{f:Sl->Sl}(hf:∀s,(f s).used=s.used):∀c,(L.modify c f).countP (·.used)=L.countP (·.used):=by
 induction L with
 |nil=>intro c;simp
 |cons a L d=>intro c;cases c<;>simp[List.countP_cons,hf,d]
section
variable {D :DM}{S N S' N':Sx.Rows}{fr lv i g x y:Int}{K a b c p:Nat}{G:Nat->Nat}{T:List RS}{M:List RN}{cs:Ak}
def Rl.slen (h:Rl G D S N fr lv)(w:WF D K):S.length<=1000:=by obtain⟨T,M,rfl,rfl,h⟩:=h;rw[TG,h.len];have:=w.lim;omega
def Rl.vld (h:Rl G D S N fr lv):K0 S i g=true↔ ∃k,D.at i g=some k:=by obtain⟨T,M,rfl,rfl,h⟩:=h;exact h.vld
def DM.nod_of {s:Sl}(h:D.L[c]? =some s):D.nod c=s.n:=by unfold DM.nod;rw[h]
def Vp:type_of% @DM.nod_of:=@DM.nod_of
def Fr.refl :Fr S N S N:=⟨TK _,fun _ _ _=>rfl,fun j h1 h2=>.inl ⟨j,h1,h2,rfl⟩⟩
def Vv:type_of% @Fr.refl:=@Fr.refl
variable {F:Ar->Ar}
def Fr.mod (h:Fr S N S N'){j:Nat}(hj:j<S.length)(d:cB S j 1=true)(hp:0<=cI S j 3):Fr S N S (N'.modify (cI S j 3).toNat F):=by obtain⟨h1,h2,h3⟩:=h;refine⟨by simpa using h1,fun q hq hn=>?_,h3⟩;have:=hn j hj d;rw[m9,TH (by omega),<-h2 q hq hn]
variable {q:Nod->Nod}
def RlT.nodes (h:RlT G D T M fr lv){r:RS}{s:Sl}(hs:D.L[c]? =some s)(l:s.used=true)(hr:T[c]? =some r){f:RN->RN}(hq:(q s.n).rn G=f (s.n.rn G)):RlT G (D.setN c q) T (M.modify r.p.toNat f) fr lv:=by
 have d:=h.row c s hs;have get:∀j,(D.setN c q).L[j]? =if c=j then D.L[j]?.map (fun s=> {s with n:=q s.n})else D.L[j]? :=fun j=>m9 ..
 refine⟨by unfold DM.setN;simpa using h.len,fun j s' hj=>?_,h.inj,h.free,h.nodup,fun j s' hj hn=>?_,?_⟩;rw[get]at hj;by_cases e:c=j;subst e;rw[TJ rfl,hs]at hj;cases hj;obtain⟨m,h1,h2,h3,h4⟩:=d;rw[hr]at h1;cases h1;refine⟨r,hr,h2,h3,fun _=>?_⟩;obtain⟨h5,o⟩:=h4 l;exact⟨h5,by rw[m9,TJ rfl,o];simp[hq]⟩;rw[TH e]at hj;obtain⟨m,h1,h2,h3,h4⟩:=h.row j s' hj;refine⟨m,h1,h2,h3,fun k=>?_⟩;obtain⟨h5,o⟩:=h4 k;obtain⟨r0,k1,k2,k3,k4⟩:=d;rw[hr]at k1;cases k1;have t:r.p≠m.p:=fun he=>e (h.inj c j r m hr h1 (k3.trans l) (h3.trans k) he);have:=(k4 l).1;exact⟨h5,by rw[m9,TH (by omega)];exact o⟩;rw[get]at hj;by_cases e:c=j;subst e;rw[TJ rfl,hs]at hj;cases hj;exact absurd (l.symm.trans hn) (by simp);rw[TH e]at hj;exact h.all j s' hj hn;rw[h.lv];exact congrArg Int.ofNat (yO (f:=fun s=> {s with n:=q s.n}) (fun _=>rfl) c).symm
def DM.setN_gen :(D.setN c q).gen=D.gen:=by funext j;unfold DM.gen DM.setN;simp only[m9];by_cases e:c=j<;>cases D.L[j]? <;>simp[e]
def Rl.spot (h:Rl G D S N fr lv)(hk:D.at i g=some c):∃s,D.L[c]? =some s/\s.used=true/\c<S.length/\cB S c 1=true/\cI S c 3=atF S i g/\0<=atF S i g/\atF S i g<N.length/\(∀j,D6 N (atF S i g) j=(s.n.rn G).row.getD j (.int 0)):=by
 obtain⟨s,h1,h2,h3,h4,h5,k,l⟩:=h.node hk;obtain⟨T,M,rfl,rfl,h⟩:=h;obtain⟨s',r,k1,k2,k3,k4,d,m,t,u⟩:=h.at_ hk;rw[h1]at k2;cases k2;have hl:=(Tn.1 d).1;obtain⟨w,e,v,o,_⟩:=h.row c s h1;rw[d]at e;cases e;have hc:T[((c:Nat):Int).toNat]? =some r:=by rw[Uc];exact d
 refine⟨s,h1,h3,by rw[TG];exact hl,?_,?_,h5,k,l⟩;unfold cB;rw[i9 hc];simp[RS.row,Dat.toBool,o,h3];unfold cI;rw[i9 hc,m];rfl
def EG {t:Str}:w9 (.mk 2 [] [] [] t [])↔E8 t=true:=by simp[w9,J3,AllAs,aG,a9.k,a9.x,a9.t,a9.y,a9.a,a9.c,a9.size,a9.sizes,a9.depth,a9.depths]
def WF.i64 (w:WF D K){k:Nat}{x:Int}(h:D.C[k]? =some x):I64 (x+1):=by
 obtain⟨a,b,c,d,e,f,h',h1,_,h3,h4⟩:=w.cnt;have:=w.lim;have hx:x∈D.C:=Tv h;have hl:(D.L.countP (·.used):Int)<=K:=by have:=List.countP_le_length (p:=fun s:Sl=>s.used) (l:=D.L);omega
 rw[h1]at hx;have:0<=x/\x<=K:=by rcases TZ.1 hx with rfl|hx;omega;exact h4 x hx
 unfold I64;omega
def RlT.cnt (h:RlT G D T M fr lv)(k:Nat):RlT G (D.cnt k) T M fr lv:=⟨h.len,h.row,h.inj,h.free,h.nodup,h.all,h.lv⟩
def Rl.cnt (h:Rl G D S N fr lv)(k:Nat):Rl G (D.cnt k) S N fr lv:=by obtain⟨T,M,h1,h2,h⟩:=h;exact⟨T,M,h1,h2,h.cnt k⟩
def Gh {α:Type}{f:α->Ar}{L:List α}{i:Nat}(q:α->α)(h:∀a,F (f a)=f (q a)):(L.map f).modify i F=(L.modify i q).map f:=by
 apply List.ext_getElem?;intro k;simp only[m9,Ul];cases L[k]? with
 |none=>simp|some a=>by_cases e:i=k<;>simp[e,h]
variable {q':RN->RN}
def Rl.mod (h:Rl G D S N fr lv)(hk:D.at i g=some c)(hq:∀r:RN,F r.row=(q' r).row)(d:∀n,(q n).rn G=q' (n.rn G)):Rl G (D.setN c q) S (N.modify (atF S i g).toNat F) fr lv:=by obtain⟨T,M,rfl,rfl,h⟩:=h;obtain⟨s,r,k1,k2,k3,k4,e,j,k,l⟩:=h.at_ hk;refine⟨T,M.modify r.p.toNat q',rfl,by rw[j];exact Gh q' hq,h.nodes k2 k3 e (d _)⟩
def Rl.frame (h:Rl G D S N fr lv)(hk:D.at i g=some c)(hF:Fr S N S N'):Fr S N S (N'.modify (atF S i g).toNat F):=by obtain⟨s,h1,h2,h3,h4,h5,d,e,j⟩:=h.spot hk;rw[<-h5];exact hF.mod h3 h4 (by rw[h5];exact d)
variable {f:DM->DM ×Prop}
def Se (hv:K0 S i g=true){k:Nat}{cs':Ak}(hq:∀r:RN,F r.row=(q' r).row)(j:∀G n,(q n).rn G=q' (n.rn G))(h:cs'=cs.modify k (· +1))(l:N'=N.modify (atF S i g).toNat F)(hf:∀D K c,RlC D S N fr lv cs->WF D K->D.at i g=some c->(f D).1=(D.setN c q).cnt k/\(f D).2):(∃D K,RlC D S N fr lv cs/\WF D K)->nP S N fr lv cs S N' fr lv cs' f:=by rintro ⟨s,t,d,o⟩;subst l;refine⟨?_,fun D K e m=>?_⟩;obtain⟨c,hc⟩:=d.1.vld.1 hv;exact d.1.frame hc Vv;obtain⟨c,hc⟩:=e.1.vld.1 hv;obtain⟨e1,e2⟩:=hf D K c e m hc;refine⟨?_,e2⟩;rw[e1];refine⟨?_,by rw[h,e.2];rfl⟩;have:((D.setN c q).cnt k).gen=D.gen:=DM.setN_gen;rw[this];exact(e.1.mod hc hq (j _)).cnt k
def N9 (hf:∀D K,RlC D S N fr lv cs->WF D K->(f D).1=D/\(f D).2):nP S N fr lv cs S N fr lv cs f:=
 ⟨Vv,fun D K d e=>⟨by rw[(hf D K d e).1];exact d,(hf D K d e).2⟩⟩
def Rl.none (h:Rl G D S N fr lv)(hv:¬K0 S i g=true):D.at i g=none:=by
 cases e:D.at i g with
 |none=>rfl|some k=>exact absurd (h.vld.2 ⟨k,e⟩) hv
def N8 {α:Type}{L:List α}{i:Nat}{f h:α->α}:(L.modify i f).modify i h=L.modify i (fun a=>h (f a)):=by apply List.ext_getElem?;intro k;simp only[m9];by_cases e:i=k<;>cases L[k]? <;>simp[e]
end
end Go.D
namespace Go.D
open Go Go.Xe Go.Sx
def aQ (l:Ah)(c:Nat):Ah:=l.filter (· ≠c)
def gC (l:Ah)(c:Nat)(a:Int):Ah:=(l.flatMap fun(x:Nat)=>if(x:Int)=a then [c,x]else [x])++if a<0 then [c]else []
def DM.opt (D:DM)(x y:Int):Bb Int:=if x=0/\y=0 then some (-1)else match D.at x y with
 |some a=>some a|none=>none
def DM.kids (D:DM)(p c:Nat)(l:Ah)(par:Int)(k:Nat):DM:=((D.setN p fun n=> {n with ch:=l}).setN c fun n=> {n with par:=par}).cnt k
open Classical in
def gW (D:DM)(i g j k x y:Int):DM×Int:=match D.at i g,D.at j k,D.opt x y with
 |some p,some c,some a=>if(D.nod p).kind≠1 then(D,1)else if(D.nod c).par≠ -1\/Abv D c p then(D,10)else if 0<=a/\a.toNat∉(D.nod p).ch then(D,1)else(D.kids p c (gC (D.nod p).ch c a) p 3,0)
 |_,_,_=>(D,11)
def Bx (D:DM)(i g:Int):DM×Int:=match D.at i g with
 |some c=>if(D.nod c).par= -1 then(D,10)else(D.kids (D.nod c).par.toNat c (aQ (D.nod (D.nod c).par.toNat).ch c) (-1) 4,0)
 |none=>(D,11)
def MK (D:DM)(i g x y:Int):DM×Int:=match D.at i g,D.opt x y with
 |some c,some a=>if(D.nod c).par= -1 then(D,10)else if a=c\/(0<=a/\a.toNat∉(D.nod (D.nod c).par.toNat).ch)then(D,1)else(D.kids (D.nod c).par.toNat c (gC (aQ (D.nod (D.nod c).par.toNat).ch c) c a) (D.nod c).par 5,0)
 |_,_=>(D,11)
def FM :Ar->Prop
 | [.int i,.int g,.int j,.int k,.int x,.int y,.lst S,.int fr,.int lv,.int a,.int b,.int c,.int d,.int e,.int f,.int h,.int m,.lst _,.lst N]=>U32 i/\U32 g/\U32 j/\U32 k/\U32 x/\U32 y/\DO S N fr lv [a,b,c,d,e,f,h,m]|_=>False
def eH :Ar->Ar->Prop
 | [.int i,.int g,.int j,.int k,.int x,.int y,.lst S,.int fr,.int lv,.int a,.int b,.int c,.int d,.int e,.int f,.int h,.int m,.lst _,.lst N],[.int r,.lst S',.int fr',.int lv',.int a',.int b',.int c',.int d',.int e',.int f',.int h',.int m',.lst _,.lst N']=>
  nP S N fr lv [a,b,c,d,e,f,h,m] S' N' fr' lv' [a',b',c',d',e',f',h',m'] fun D=>((gW D i g j k x y).1,r=(gW D i g j k x y).2)
 |_,_=>False
def By :Ar->Prop
 | [.int i,.int g,.lst S,.int fr,.int lv,.int a,.int b,.int c,.int d,.int e,.int f,.int h,.int m,.lst _,.lst N]=>U32 i/\U32 g/\DO S N fr lv [a,b,c,d,e,f,h,m]|_=>False
def uU :Ar->Ar->Prop
 | [.int i,.int g,.lst S,.int fr,.int lv,.int a,.int b,.int c,.int d,.int e,.int f,.int h,.int m,.lst _,.lst N],[.int r,.lst S',.int fr',.int lv',.int a',.int b',.int c',.int d',.int e',.int f',.int h',.int m',.lst _,.lst N']=>
  nP S N fr lv [a,b,c,d,e,f,h,m] S' N' fr' lv' [a',b',c',d',e',f',h',m'] fun D=>((Bx D i g).1,r=(Bx D i g).2)
 |_,_=>False
def RQ :Ar->Ar->Prop
 | [.int i,.int g,.int x,.int y,.lst S,.int fr,.int lv,.int a,.int b,.int c,.int d,.int e,.int f,.int h,.int m,.lst _,.lst N],[.int r,.lst S',.int fr',.int lv',.int a',.int b',.int c',.int d',.int e',.int f',.int h',.int m',.lst _,.lst N']=>
  nP S N fr lv [a,b,c,d,e,f,h,m] S' N' fr' lv' [a',b',c',d',e',f',h',m'] fun D=>((MK D i g x y).1,r=(MK D i g x y).2)
 |_,_=>False
def cIns:=mkD "ins" [hV,hV,hV] FM [iV] eH
def cRem:=mkD "rem" [hV] By [iV] uU
def Hy :Ay->List (Nat×(Fm->SS->J0)):=bD
def Ob :Nat->List (Ay×Con)
 |_=>[(LVn,cYes "lives")]
def Gz :Nat->Aw->G1
 |_,P=>(159,sdel P U0 tHd 2)::(73,wkM U0 (sins P U0 tHd 2))::cH 0 P
