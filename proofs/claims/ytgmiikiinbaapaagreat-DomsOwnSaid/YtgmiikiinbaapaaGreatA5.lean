/- Trees: the conditions of walk and of Check hold.
  Conditions: none. -/
import Derived.Test.YtgmiikiinbaapaaGreatA3
import Derived.Test.YtgmiikiinbaapaaGreatB2
set_option maxRecDepth 100000
set_option linter.all false
noncomputable section
namespace Go.D
open Go Go.Xe Go.Sx
def J7 (s:c9):kG s↔V8 s/\AllAs s.c:=by cases s;unfold kG;rfl
def uM (s:c9):s.size=c9.sizes s.c+1:=by cases s;rfl
def wX (s:c9):s.depth=c9.depths s.c+1:=by cases s;rfl
def mX (l m:List c9):AllAs (l++m)↔AllAs l/\AllAs m:=by
 induction l with
 |nil=>simp[AllAs]|cons a l b=>simp[AllAs,b,and_assoc]
def gO (l m:List c9):c9.sizes (l++m)=c9.sizes l+c9.sizes m:=by
 induction l with
 |nil=>simp[c9.sizes]|cons a l b=>simp only[c9.sizes,Qx,b];omega
def iU (l m:List c9):c9.depths (l++m)=max (c9.depths l) (c9.depths m):=by
 induction l with
 |nil=>simp[c9.depths]|cons a l b=>simp only[c9.depths,Qx,b];omega
def Dz (l:List c9)(k:Nat):c9.sizes (l.take k)<=c9.sizes l:=by rw(occs:= .pos [2]) [<-Ra k l];rw[gO];omega
def wY (l:List c9)(k:Nat):c9.depths (l.take k)<=c9.depths l:=by rw(occs:= .pos [2]) [<-Ra k l];rw[iU];omega
variable {l:List c9}
def Ev (h:AllAs l)(k:Nat):AllAs (l.take k):=by rw[<-Ra k l,mX]at h;exact h.1
theorem fZ (h:AllAs l){k:Nat}{a:c9}(c:l[k]? =some a):kG a:=by
 induction l generalizing k with
 |nil=>grind|cons b l d=>cases k with
  |zero=>cases c;exact h.1
  |succ k=>exact d h.2 (by simpa using c)
def Lq (s:c9):1<=s.size:=by rw[uM];omega
theorem kN {s:c9}(h:V8 s):s.c.length<=16/\s.a.length<=8:=by rcases h<;>grind
def bad {p q:Prop}(h:¬p):(false=true↔p)/\(false=true->q):=⟨D4 h,fun e=>(by cases e)⟩
def KF (c:c9):c9.sizes [c]=c.size:=by simp[c9.sizes]
def NU (c:c9):c9.depths [c]=c.depth:=by simp[c9.depths]
def vcWalk_ok (n:Nat):vcWalk n:=by
 rintro _ lv t A ⟨⟨⟨s,rfl⟩,h1,h2,h3,h4,E,f⟩,hm⟩;simp only[fU]at hm;simp only[Nd,ln,I64,cL,JG,part1,t5,bD,PD,y9,eA,G8,cY,fU,fV,yS,QE,QH,QD,tV,forall_eq',exists_eq',Qy,Qg];refine⟨⟨by omega,by omega⟩,fun _=>⟨fun j=>?_,fun j=>?_⟩⟩;all_goals
  have p:=uM s;have o:=wX s;refine⟨fun h=>⟨by omega,by omega,by omega,by omega,bad fun g=>?_⟩,fun f=>⟨fun h=>⟨by omega,by omega,by omega,by omega,bad fun g=>?_⟩,fun i b hb=>⟨fun e=>⟨⟨by omega,by omega,by omega,by omega,trivial,by simp[c9.sizes],by omega,by simp only[Int.toNat_zero,List.take_zero,c9.depths];omega,by omega,by simp only[Int.toNat_zero,List.take_zero,c9.depths];omega,by omega⟩,fun _ k n' z ⟨k0,_,_,k1,k2,k3,F,q,G,r,_⟩=>⟨fun hk=>?_,fun hk=>?_⟩⟩,fun e=>⟨by omega,by omega,by omega,by omega,bad fun g=>e (hb.2 ((J7 s).1 g.1).1)⟩⟩⟩⟩;have:=g.2.1;omega;have:=g.2.2;omega;obtain⟨c,hc⟩:=Sx.get_at k0 hk;have:=kN (hb.1 e);have hs1:=Dz s.c (k+1).toNat;have hd1:=wY s.c (k+1).toNat;simp only[KK hc,QE,QH,tV,forall_eq',exists_eq',QD];simp only[p7 k0 hc,gO,KF,iU,NU]at hs1 hd1⊢;refine⟨by omega,fun _=>⟨hk,fun _=>⟨⟨by omega,by omega⟩,fun _=>⟨⟨⟨by omega,by omega,by omega,by omega,by omega,by omega⟩,by omega⟩,fun _ b' m B ⟨u,v,w,x,a,y⟩=>⟨fun e'=>?_,fun e'=>?_⟩⟩⟩⟩⟩;obtain⟨d,C,D⟩:=a.1 e';obtain⟨H,I⟩:=y e';exact⟨⟨by omega,by omega⟩,fun _=>⟨⟨by omega,by omega,by omega,by omega,(mX _ _).2 ⟨k2,d,trivial⟩,by omega,by omega,by omega,by omega,by omega,by omega⟩,fun _=>by omega⟩⟩;refine⟨u,v,w,x,bad fun g=>e' (a.2 ⟨fZ ((J7 s).1 g.1).2 hc,?_,?_⟩)⟩;have:=g.2.1;omega;have:=g.2.2;omega
  ·rw[A6 (by omega)]at k2 k3 q r;have g:Good s lv t:=⟨(J7 s).2 ⟨hb.1 e,k2⟩,by omega,by omega⟩
   exact⟨by omega,by omega,by omega,by omega,⟨fun _=>g,fun _=>trivial⟩,by omega,by omega⟩
def no14 {p:Prop}(h:¬p):((14:Int)=0↔p):=⟨fun e=>absurd e (by decide),fun e=>absurd e h⟩
def vcChk_ok :vcChk:=by
 rintro _ _ _ _ _ _ ⟨s,rfl,rfl,rfl,rfl,rfl,rfl⟩;have e:pQ (b8 6 1 [(.int s.k),(.str s.t),(.str s.y),(.lst (s.a.map Att.row)),(.str s.x),(.lst (rows s.c))]) 0 1=[s.row]:=by rw[S7];rfl
 simp only[Nd,e,cY,G8,R4,H3,QE,QH,tV,forall_eq',forall_eq,exists_eq',QD,Qy];refine⟨by omega,fun _ b n d ⟨h1,h2,h3,h4,f,i⟩=>⟨fun e=>?_,fun e=>⟨no14 fun h=>absurd (f.2 ⟨h.1,by have:=h.2.2;omega,by have:=h.2.1;omega⟩) e,.inr trivial⟩⟩⟩;obtain⟨g,j,m⟩:=f.1 e;have:=(i e).1;have:=Lq s;exact⟨fun h=>by omega,fun _=>⟨⟨fun _=>⟨g,by omega,by omega⟩,fun _=>trivial⟩,.inl trivial⟩⟩
open Go Go.Xe Go.Sx
theorem set6 {L:Sx.Rows}{i:Int}{a b c d e f:Dat}(h0:0<=i)(h:i<(L.length:Int))(hr:∀r∈L,r.length=6):a8 (a8 (a8 (a8 (a8 (a8 L i 0 a) i 1 b) i 2 c) i 3 d) i 4 e) i 5 f=L.set i.toNat [a,b,c,d,e,f]:=by
 obtain⟨r,hg⟩:=Sx.get_at h0 h;have g:=hr r (Pv hg)
 match r,g with
 | [_,_,_,_,_,_],_=>refine List.ext_getElem? fun j=>?_;simp only[a8,List.getElem?_modify,List.getElem?_set];by_cases e:i.toNat=j;subst e;simp[hg];omega;grind
def LP {α:Type}{L:List α}{i:Int}{a:α}(h0:0<=i)(h:i<(L.length:Int)):(L.set i.toNat a).take (i+1).toNat=L.take i.toNat++ [a]:=by rw[p7 h0 (by rw[List.getElem?_set_self (by omega)]),List.take_set_of_le (PH _)]
def Gi (b:Bool)(l m:List c9):strips b (l++m)=strips b l++strips b m:=by
 induction l with
 |nil=>simp[strips]|cons a l c=>simp[strips,c]
def MM (c:c9):c.row.length=6:=by rw[S7];rfl
theorem uX :∀ {l:List c9} {k:Nat} {c:c9},l[k]? =some c->szRs (rows c.c)<szRs (rows l)
 | [],k,c,h=>by grind|a::l,0,c,h=>by cases h;show _<szR a.row+1+szRs (rows l);rw[S7];simp only[szR,szD];omega
 |a::l,k+1,c,h=>by have:=uX (by simpa using h);show _<szR a.row+1+szRs (rows l);omega
def zX {s:c9}{k:Int}{t y x:Str}{a c:Sx.Rows}(h:isT s k t y a x c): [Dat.int k,.str t,.str y,.lst a,.str x,.lst c]=s.row:=by obtain⟨rfl,rfl,rfl,rfl,rfl,rfl⟩:=h;exact(S7 s).symm
theorem JH (n:Nat)(s:c9)(b:Bool)(f:kG s)(hn:szRs (rows s.c)<n+1)(k:Int)(D:Sx.Rows)(hi:J9 [.lst (rows s.c),.bool b] [.int k,.lst D])(hk:k<((rows s.c).length:Int)):vcCpd0 n k (rows s.c) b D:=by
 obtain⟨k0,k1,k2,k3⟩:=hi;obtain⟨k3,l⟩:=k3 s.c rfl;rw[PD]at k1 k2 hk;obtain⟨c,hc⟩:=Sx.get_at k0 hk;have f:=(J7 s).1 f;have i:=(kN f.1).1;have g:=fZ f.2 hc;have d:=uX hc;have d:szRs (rows c.c)<n:=by omega
 simp only[vcCpd0,Nd,Nr,Ni,ln,I64,cI,cS,cL,O2 hc,t0,t1,t2,t3,t4,t5,gT,C4,bD,PD,rT,wT,W4,JI,A7,H3,forall_eq,exists_eq_left,QD,Qg,Qy,QH,k2];refine⟨by omega,fun _=>⟨hk,fun _=>⟨⟨g,d⟩,fun _ k' t y a x c' j=>⟨by omega,fun _=>⟨by omega,fun _=>⟨Int.lt_irrefl _,fun _=>⟨by omega,fun _=>⟨⟨by omega,by omega⟩,fun _=>⟨by omega,fun _=>⟨by omega,fun _=>⟨?_,fun _=>by omega⟩⟩⟩⟩⟩⟩⟩⟩⟩⟩⟩;rw[set6 k0 (by omega) l,zX j];refine⟨by omega,by grind,by grind,fun m e=>?_⟩;rw[<-AY.mp e,LP k0 (by omega),p7 k0 hc,Gi,k3];refine⟨by simp[rows,strips],fun r hr=>?_⟩;rcases List.mem_or_eq_of_mem_set hr with h|rfl;grind;exact MM _
theorem vcCpd_ok (n:Nat):vcCpd n:=by
 rintro _ _ _ _ _ _ b ⟨⟨s,⟨rfl,rfl,rfl,rfl,rfl,rfl⟩,g⟩,hn⟩;have B:=JH n s b g hn;have f:=(J7 s).1 g;obtain⟨o,q⟩:=kN f.1;have S:J9 [.lst (rows s.c),.bool b] [.int 0,.lst (pQ (List.replicate ((ln (rows s.c))).toNat [(.int (0)),(.str ([]:Ae)),(.str ([]:Ae)),(.lst ([]:Sx.Rows)),(.str ([]:Ae)),(.lst ([]:Sx.Rows))]:Sx.Rows) 0 (ln (rows s.c)))]:=by refine⟨by omega,by omega,by simp[pQ],fun c e=>⟨by simp[strips],fun r hr=>?_⟩⟩;rw[(List.mem_replicate.1 (QT hr)).2];rfl
 have F:∀k D d,J9 [.lst (rows s.c),.bool b] [.int k,.lst D]-> ¬k<ln (rows s.c)->d=s.a.map Att.row->W4 [.int s.k,.str s.t,.str s.y,.lst (s.a.map Att.row),.str s.x,.lst (rows s.c),.bool b] [.int s.k,.str s.t,.str (if b then s.y else []),.lst d,.str s.x,.lst D]:=by intro k D d ⟨k0,k1,k2,k3⟩ hk e;obtain⟨k3,_⟩:=k3 s.c rfl;unfold ln at hk;rw[A6 (by omega),A6 (by grind)]at k3;intro s' h;rw[H3]at h;subst h;subst e;subst k3;cases s';exact⟨rfl,rfl,rfl,rfl,rfl,rfl⟩
 have i:b8 2 0 []++s.a.map Att.row=s.a.map Att.row:=rfl;have j:pQ (Sx.over (b8 2 0 []) 0 (s.a.map Att.row)) 0 (ln (s.a.map Att.row))=s.a.map Att.row:=by simp[pQ,Sx.over,b8,ln,<-List.map_take]
 have l:ln (Sx.over (b8 2 0 []) 0 (s.a.map Att.row))=ln (s.a.map Att.row):=by simp[Sx.over,b8,ln]
 have m:ln (s.a.map Att.row)=0->([]:Sx.Rows)=s.a.map Att.row:=fun h=>by
  have:s.a=[]:=by simpa [ln]using h
  rw[this];rfl
 have u:ln (rows s.c)<=16:=by simp[ln];omega
 have v:ln (s.a.map Att.row)<=8:=by simp[ln];omega
 have w:0<=ln (rows s.c):=by simp[ln]
 have z:0<=ln (s.a.map Att.row):=by simp[ln]
 have p:ln (List.replicate (ln (rows s.c)).toNat [(.int (0)),(.str ([]:Ae)),(.str ([]:Ae)),(.lst ([]:Sx.Rows)),(.str ([]:Ae)),(.lst ([]:Sx.Rows))]:Sx.Rows)=ln (rows s.c):=by simp[ln]
 simp only[i,j,l,p];cases b;all_goals
  simp only[QG,if_false,QY]at F;simp only[Nd,Nr,Ni,false_implies,Qg,QD,not_false_eq_true,QG,not_true_eq_false,QH]
  repeat' with_reducible first|exact trivial|exact S|exact B _ _ ‹_› ‹_› |exact F _ _ _ ‹_› ‹_› rfl|exact F _ _ _ ‹_› ‹_› (m ‹_›)|omega| (refine PM ?_ ?_)|intro _
end Go.D
namespace Go.D
open Go Go.Xe Go.Sx
def DM.nod (D:DM)(c:Nat):Nod:=match D.L[c]? with
 |some s=>s.n|none=>⟨0,[],[],[],0,0,false, -1,[]⟩
def DM.setN (D:DM)(c:Nat)(q:Nod->Nod):DM:= {D with L:=D.L.modify c fun s=> {s with n:=q s.n}}
def DM.cnt (D:DM)(k:Nat):DM:= {D with C:=D.C.modify k (· +1)}
def Z3 (D:DM)(i g:Int)(t:Str):DM×Int:=match D.at i g with
 |none=>(D,11)
 |some c=>if(D.nod c).kind≠2\/I0 t=false then(D,1)else((D.setN c fun n=> {n with text:=t}).cnt 6,0)
def lE (D:DM)(i g top size:Int)(pin:Bool):DM×Int:=match D.at i g with
 |none=>(D,11)
 |some c=>if(D.nod c).kind≠1 then(D,1)else((D.setN c fun n=> {n with top:=top,size:=size,pin:=pin}).cnt 7,0)
def RlC (D:DM)(S N:Sx.Rows)(fr lv:Int)(cs:Ak):Prop:=Rl D.gen D S N fr lv/\cs=D.C
def Fr (S N S' N':Sx.Rows):Prop:=N.length<=N'.length/\(∀k:Nat,k<N.length->(∀j:Nat,j<S.length->cB S j 1=true->cI S j 3≠k)->N'[k]? =N[k]?)/\
 ∀i:Nat,i<S'.length->cB S' i 1=true->(∃j:Nat,j<S.length/\cB S j 1=true/\cI S j 3=cI S' i 3)\/(N.length:Int)<=cI S' i 3
def pJ (S N:Sx.Rows)(fr lv:Int)(cs:Ak):Prop:=∃D K,RlC D S N fr lv cs/\WF D K
def X0 (S N:Sx.Rows)(fr lv:Int)(cs:Ak)(S' N':Sx.Rows)(fr' lv':Int)(cs':Ak)(f:DM->DM×Prop):Prop:=
 Fr S N S' N'/\ ∀D K,RlC D S N fr lv cs->WF D K->RlC (f D).1 S' N' fr' lv' cs'/\(f D).2
def Gj :Ar->Prop
 | [.int i,.int g,.str t,.lst S,.int fr,.int lv,.int a,.int b,.int c,.int d,.int e,.int f,.int h,.int k,.lst _,.lst N]=>U32 i/\U32 g/\pJ S N fr lv [a,b,c,d,e,f,h,k]|_=>False
def uU :Ar->Ar->Prop
 | [.int i,.int g,.str t,.lst S,.int fr,.int lv,.int a,.int b,.int c,.int d,.int e,.int f,.int h,.int k,.lst _,.lst N],[.int x,.lst S',.int fr',.int lv',.int a',.int b',.int c',.int d',.int e',.int f',.int h',.int k',.lst _,.lst N']=>
  X0 S N fr lv [a,b,c,d,e,f,h,k] S' N' fr' lv' [a',b',c',d',e',f',h',k'] fun D=>((Z3 D i g t).1,x=(Z3 D i g t).2)
 |_,_=>False
def Fu :Ar->Prop
 | [.int i,.int g,.int _,.int _,.bool _,.lst S,.int fr,.int lv,.int a,.int b,.int c,.int d,.int e,.int f,.int h,.int k,.lst _,.lst N]=>U32 i/\U32 g/\pJ S N fr lv [a,b,c,d,e,f,h,k]|_=>False
def tN :Ar->Ar->Prop
 | [.int i,.int g,.int t,.int z,.bool p,.lst S,.int fr,.int lv,.int a,.int b,.int c,.int d,.int e,.int f,.int h,.int k,.lst _,.lst N],[.int x,.lst S',.int fr',.int lv',.int a',.int b',.int c',.int d',.int e',.int f',.int h',.int k',.lst _,.lst N']=>
  X0 S N fr lv [a,b,c,d,e,f,h,k] S' N' fr' lv' [a',b',c',d',e',f',h',k'] fun D=>((lE D i g t z p).1,x=(lE D i g t z p).2)
 |_,_=>False
def cStx:=mkD "stx" [hV,sV] Gj [iV] uU
def cPlk:=mkD "plk" [hV,iV,iV,bV] Fu [iV] tN
def GG :Ay->List (Nat×(Fm->SS->G5)):=T9
def Gg :Nat->List (Ay×Con)
 |_=>[(60,cChk),(LVn,cYes "lives")]
def T5 :Nat->Aw->E7
 |_,P=>[(45,kro P U0 cAt),(110,kro P U0 cVld),(48,kro P U0 cPlc),(46,kro P U0 cAbo)]
open Go Go.Xe Go.Sx
def vcStx0 (a:Sx.Rows)(p q:Int)(r:Ae)(b c d f g h i j k l:Int)(m o:Sx.Rows):Prop:=
 Nq (ln a)<|Nd (uU (.int p::.int q::.str r::JD a b c d f g h i j k l m o) (.int 1::JD a b c d f g h i j k l m o)) True
def vcStx :Prop:=
 ∀p q r a d f g h i j k l c m o b,Gj (.int p::.int q::.str r::JD a d f g h i j k l c m o b)->Nq (ln a) (Cg G3 C9 (.int p::.int q::JE a d f g h i j k l c m o) fun R=>∀u,R [.bool u]->((u=true->Nq (ln a) (Cg u7 t9 (.int p::.int q::JE a d f g h i j k l c m o) fun R=>∀s,R [.int s]->Nb s (ln b) ((cI b s 0=2->Cg eG R4 [.int 2,.str [],.str [],.lst [],.str r,.lst []] (fun R=>∀v,R [.int v]->((v=0->Nq (ln a) (Cg u7 t9 (.int p::.int q::JE a d f g h i j k l c m o) fun R=>∀t,R [.int t]->Nb t (ln b) (Nb t (ln b)<|Nd (I64 (c+1))<|Nq (ln a)<|Nd (uU (.int p::.int q::.str r::JD a d f g h i j k l c m o b) (.int 0::JD a d f g h i j k l (c+1) m o (a8 b t 3 (.str r)))) True)))/\(¬v=0->vcStx0 a p q r d f g h i j k l c m o b))))/\(¬cI b s 0=2->vcStx0 a p q r d f g h i j k l c m o b))))/\(¬u=true->Nq (ln a) (Nd (uU (.int p::.int q::.str r::JD a d f g h i j k l c m o b) (.int 11::JD a d f g h i j k l c m o b)) True))))
def vcStx_eq :kq Go.Proofs.Tryz.prog cStx GG (Gg 0) (T5 0) 33=vcStx:=by kernel_rfl
def vcPlk :Prop:=
 ∀q r s t u a d f g h i j k l m c o b,Fu (.int q::.int r::.int s::.int t::.bool u::JD a d f g h i j k l m c o b)->Nq (ln a) (Cg G3 C9 (.int q::.int r::JE a d f g h i j k l m c o) fun R=>∀w,R [.bool w]->((w=true->Nq (ln a) (Cg u7 t9 (.int q::.int r::JE a d f g h i j k l m c o) fun R=>∀v,R [.int v]->Nb v (ln b) ((cI b v 0=1->Nq (ln a) (Cg u7 t9 (.int q::.int r::JE a d f g h i j k l m c o) fun R=>∀p,R [.int p]->Nb p (ln b) (Nb p (ln b)<|Nb p (ln b)<|Nb p (ln b)<|Nd (I64 (c+1))<|Nq (ln a)<|Nd (tN (.int q::.int r::.int s::.int t::.bool u::JD a d f g h i j k l m c o b) (.int 0::.lst a::J10 d f g h i j k l m (c+1) [.lst o,.lst (a8 (a8 (a8 b p 4 (.int s)) p 5 (.int t)) p 6 (.bool u))])) True)))/\(¬cI b v 0=1->Nq (ln a) (Nd (tN (.int q::.int r::.int s::.int t::.bool u::JD a d f g h i j k l m c o b) (.int 1::JD a d f g h i j k l m c o b)) True)))))/\(¬w=true->Nq (ln a) (Nd (tN (.int q::.int r::.int s::.int t::.bool u::JD a d f g h i j k l m c o b) (.int 11::JD a d f g h i j k l m c o b)) True))))
def vcPlk_eq :kq Go.Proofs.Tryz.prog cPlk GG (Gg 0) (T5 0) 36=vcPlk:=by kernel_rfl
