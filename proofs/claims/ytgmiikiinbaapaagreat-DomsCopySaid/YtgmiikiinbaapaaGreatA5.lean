/- Trees: the conditions of walk and of Check hold.
  Conditions: none. -/
import Derived.Test.YtgmiikiinbaapaaGreatA3
import Derived.Test.YtgmiikiinbaapaaGreatB2
set_option maxRecDepth 100000
set_option linter.all false
noncomputable section
namespace Go.D
open Go Go.Xe Go.Sx
def L7 (s:d8):lP s↔Y3 s/\AllAs s.c:=by cases s;unfold lP;rfl
def wB (s:d8):s.size=d8.sizes s.c+1:=by cases s;rfl
def yM (s:d8):s.depth=d8.depths s.c+1:=by cases s;rfl
def oE (l m:List d8):AllAs (l++m)↔AllAs l/\AllAs m:=by
 induction l with
 |nil=>simp[AllAs]|cons a l b=>simp[AllAs,b,and_assoc]
def iL (l m:List d8):d8.sizes (l++m)=d8.sizes l+d8.sizes m:=by
 induction l with
 |nil=>simp[d8.sizes]|cons a l b=>simp only[d8.sizes,RO,b];omega
def kC (l m:List d8):d8.depths (l++m)=max (d8.depths l) (d8.depths m):=by
 induction l with
 |nil=>simp[d8.depths]|cons a l b=>simp only[d8.depths,RO,b];omega
def El (l:List d8)(k:Nat):d8.sizes (l.take k)<=d8.sizes l:=by rw(occs:= .pos [2]) [<-Sz k l];rw[iL];omega
def yN (l:List d8)(k:Nat):d8.depths (l.take k)<=d8.depths l:=by rw(occs:= .pos [2]) [<-Sz k l];rw[kC];omega
variable {l:List d8}
def Ff (h:AllAs l)(k:Nat):AllAs (l.take k):=by rw[<-Sz k l,oE]at h;exact h.1
theorem hG (h:AllAs l){k:Nat}{a:d8}(c:l[k]? =some a):lP a:=by
 induction l generalizing k with
 |nil=>grind|cons b l d=>cases k with
  |zero=>cases c;exact h.1
  |succ k=>exact d h.2 (by simpa using c)
def Mu (s:d8):1<=s.size:=by rw[wB];omega
theorem mC {s:d8}(h:Y3 s):s.c.length<=16/\s.a.length<=8:=by rcases h<;>grind
def bad {p q:Prop}(h:¬p):(false=true↔p)/\(false=true->q):=⟨E7 h,fun e=>(by cases e)⟩
def LJ (c:d8):d8.sizes [c]=c.size:=by simp[d8.sizes]
def OV (c:d8):d8.depths [c]=c.depth:=by simp[d8.depths]
def vcWalk_ok (n:Nat):vcWalk n:=by
 rintro _ lv t A ⟨⟨⟨s,rfl⟩,h1,h2,h3,h4,E,f⟩,hm⟩;simp only[gW]at hm;simp only[Nd,ln,I64,cL,KB,part1,t5,cH,QT,A6,fG,I6,eA,gW,gX,AB,RW,Sa,RV,vK,forall_eq',exists_eq',RP,Rv];refine⟨⟨by omega,by omega⟩,fun _=>⟨fun j=>?_,fun j=>?_⟩⟩;all_goals
  have p:=wB s;have o:=yM s;refine⟨fun h=>⟨by omega,by omega,by omega,by omega,bad fun g=>?_⟩,fun f=>⟨fun h=>⟨by omega,by omega,by omega,by omega,bad fun g=>?_⟩,fun i b hb=>⟨fun e=>⟨⟨by omega,by omega,by omega,by omega,trivial,by simp[d8.sizes],by omega,by simp only[Int.toNat_zero,List.take_zero,d8.depths];omega,by omega,by simp only[Int.toNat_zero,List.take_zero,d8.depths];omega,by omega⟩,fun _ k n' z ⟨k0,_,_,k1,k2,k3,F,q,G,r,_⟩=>⟨fun hk=>?_,fun hk=>?_⟩⟩,fun e=>⟨by omega,by omega,by omega,by omega,bad fun g=>e (hb.2 ((L7 s).1 g.1).1)⟩⟩⟩⟩;have:=g.2.1;omega;have:=g.2.2;omega;obtain⟨c,hc⟩:=Sx.get_at k0 hk;have:=mC (hb.1 e);have hs1:=El s.c (k+1).toNat;have hd1:=yN s.c (k+1).toNat;simp only[LM hc,RW,Sa,vK,forall_eq',exists_eq',RV];simp only[t8 k0 hc,iL,LJ,kC,OV]at hs1 hd1⊢;refine⟨by omega,fun _=>⟨hk,fun _=>⟨⟨by omega,by omega⟩,fun _=>⟨⟨⟨by omega,by omega,by omega,by omega,by omega,by omega⟩,by omega⟩,fun _ b' m B ⟨u,v,w,x,a,y⟩=>⟨fun e'=>?_,fun e'=>?_⟩⟩⟩⟩⟩;obtain⟨d,C,D⟩:=a.1 e';obtain⟨H,I⟩:=y e';exact⟨⟨by omega,by omega⟩,fun _=>⟨⟨by omega,by omega,by omega,by omega,(oE _ _).2 ⟨k2,d,trivial⟩,by omega,by omega,by omega,by omega,by omega,by omega⟩,fun _=>by omega⟩⟩;refine⟨u,v,w,x,bad fun g=>e' (a.2 ⟨hG ((L7 s).1 g.1).2 hc,?_,?_⟩)⟩;have:=g.2.1;omega;have:=g.2.2;omega
  ·rw[B7 (by omega)]at k2 k3 q r;have g:Good s lv t:=⟨(L7 s).2 ⟨hb.1 e,k2⟩,by omega,by omega⟩
   exact⟨by omega,by omega,by omega,by omega,⟨fun _=>g,fun _=>trivial⟩,by omega,by omega⟩
def no14 {p:Prop}(h:¬p):((14:Int)=0↔p):=⟨fun e=>absurd e (by decide),fun e=>absurd e h⟩
def vcChk_ok :vcChk:=by
 rintro _ _ _ _ _ _ ⟨s,rfl,rfl,rfl,rfl,rfl,rfl⟩;have e:pQ (b8 6 1 [(.int s.k),(.str s.t),(.str s.y),(.lst (s.a.map Att.row)),(.str s.x),(.lst (rows s.c))]) 0 1=[s.row]:=by rw[V4];rfl
 simp only[Nd,e,eA,I6,U5,I8,RW,Sa,vK,forall_eq',forall_eq,exists_eq',RV,RP];refine⟨by omega,fun _ b n d ⟨h1,h2,h3,h4,f,i⟩=>⟨fun e=>?_,fun e=>⟨no14 fun h=>absurd (f.2 ⟨h.1,by have:=h.2.2;omega,by have:=h.2.1;omega⟩) e,.inr trivial⟩⟩⟩;obtain⟨g,j,m⟩:=f.1 e;have:=(i e).1;have:=Mu s;exact⟨fun h=>by omega,fun _=>⟨⟨fun _=>⟨g,by omega,by omega⟩,fun _=>trivial⟩,.inl trivial⟩⟩
open Go Go.Xe Go.Sx
theorem set6 {L:Sx.Rows}{i:Int}{a b c d e f:Dat}(h0:0<=i)(h:i<(L.length:Int))(hr:∀r∈L,r.length=6):a8 (a8 (a8 (a8 (a8 (a8 L i 0 a) i 1 b) i 2 c) i 3 d) i 4 e) i 5 f=L.set i.toNat [a,b,c,d,e,f]:=by
 obtain⟨r,hg⟩:=Sx.get_at h0 h;have g:=hr r (QK hg)
 match r,g with
 | [_,_,_,_,_,_],_=>refine List.ext_getElem? fun j=>?_;simp only[a8,List.getElem?_modify,List.getElem?_set];by_cases e:i.toNat=j;subst e;simp[hg];omega;grind
def MN {α:Type}{L:List α}{i:Int}{a:α}(h0:0<=i)(h:i<(L.length:Int)):(L.set i.toNat a).take (i+1).toNat=L.take i.toNat++ [a]:=by rw[t8 h0 (by rw[List.getElem?_set_self (by omega)]),List.take_set_of_le (QX _)]
def GU (b:Bool)(l m:List d8):strips b (l++m)=strips b l++strips b m:=by
 induction l with
 |nil=>simp[strips]|cons a l c=>simp[strips,c]
def NT (c:d8):c.row.length=6:=by rw[V4];rfl
theorem wL :∀ {l:List d8} {k:Nat} {c:d8},l[k]? =some c->szRs (rows c.c)<szRs (rows l)
 | [],k,c,h=>by grind|a::l,0,c,h=>by cases h;show _<szR a.row+1+szRs (rows l);rw[V4];simp only[szR,szD];omega
 |a::l,k+1,c,h=>by have:=wL (by simpa using h);show _<szR a.row+1+szRs (rows l);omega
def Bj {s:d8}{k:Int}{t y x:Str}{a c:Sx.Rows}(h:isT s k t y a x c): [Dat.int k,.str t,.str y,.lst a,.str x,.lst c]=s.row:=by obtain⟨rfl,rfl,rfl,rfl,rfl,rfl⟩:=h;exact(V4 s).symm
theorem KC (n:Nat)(s:d8)(b:Bool)(f:lP s)(hn:szRs (rows s.c)<n+1)(k:Int)(D:Sx.Rows)(hi:L9 [.lst (rows s.c),.bool b] [.int k,.lst D])(hk:k<((rows s.c).length:Int)):vcCpd0 n k (rows s.c) b D:=by
 obtain⟨k0,k1,k2,k3⟩:=hi;obtain⟨k3,l⟩:=k3 s.c rfl;rw[QT]at k1 k2 hk;obtain⟨c,hc⟩:=Sx.get_at k0 hk;have f:=(L7 s).1 f;have i:=(mC f.1).1;have g:=hG f.2 hc;have d:=wL hc;have d:szRs (rows c.c)<n:=by omega
 simp only[vcCpd0,Nd,Nr,Ni,ln,I64,cI,cS,cL,Q8 hc,t0,t1,t2,t3,t4,t5,iR,D6,cH,QT,tH,yI,Y8,KD,B6,I8,forall_eq,exists_eq_left,RV,Rv,RP,Sa,k2];refine⟨by omega,fun _=>⟨hk,fun _=>⟨⟨g,d⟩,fun _ k' t y a x c' j=>⟨by omega,fun _=>⟨by omega,fun _=>⟨Int.lt_irrefl _,fun _=>⟨by omega,fun _=>⟨⟨by omega,by omega⟩,fun _=>⟨by omega,fun _=>⟨by omega,fun _=>⟨?_,fun _=>by omega⟩⟩⟩⟩⟩⟩⟩⟩⟩⟩⟩;rw[set6 k0 (by omega) l,Bj j];refine⟨by omega,by grind,by grind,fun m e=>?_⟩;rw[<-BL.mp e,MN k0 (by omega),t8 k0 hc,GU,k3];refine⟨by simp[rows,strips],fun r hr=>?_⟩;rcases List.mem_or_eq_of_mem_set hr with h|rfl;grind;exact NT _
theorem vcCpd_ok (n:Nat):vcCpd n:=by
 rintro _ _ _ _ _ _ b ⟨⟨s,⟨rfl,rfl,rfl,rfl,rfl,rfl⟩,g⟩,hn⟩;have B:=KC n s b g hn;have f:=(L7 s).1 g;obtain⟨o,q⟩:=mC f.1;have S:L9 [.lst (rows s.c),.bool b] [.int 0,.lst (pQ (List.replicate ((ln (rows s.c))).toNat [(.int (0)),(.str ([]:Ae)),(.str ([]:Ae)),(.lst ([]:Sx.Rows)),(.str ([]:Ae)),(.lst ([]:Sx.Rows))]:Sx.Rows) 0 (ln (rows s.c)))]:=by refine⟨by omega,by omega,by simp[pQ],fun c e=>⟨by simp[strips],fun r hr=>?_⟩⟩;rw[(List.mem_replicate.1 (Sp hr)).2];rfl
 have F:∀k D d,L9 [.lst (rows s.c),.bool b] [.int k,.lst D]-> ¬k<ln (rows s.c)->d=s.a.map Att.row->Y8 [.int s.k,.str s.t,.str s.y,.lst (s.a.map Att.row),.str s.x,.lst (rows s.c),.bool b] [.int s.k,.str s.t,.str (if b then s.y else []),.lst d,.str s.x,.lst D]:=by intro k D d ⟨k0,k1,k2,k3⟩ hk e;obtain⟨k3,_⟩:=k3 s.c rfl;unfold ln at hk;rw[B7 (by omega),B7 (by grind)]at k3;intro s' h;rw[I8]at h;subst h;subst e;subst k3;cases s';exact⟨rfl,rfl,rfl,rfl,rfl,rfl⟩
 have i:b8 2 0 []++s.a.map Att.row=s.a.map Att.row:=rfl;have j:pQ (Sx.over (b8 2 0 []) 0 (s.a.map Att.row)) 0 (ln (s.a.map Att.row))=s.a.map Att.row:=by simp[pQ,Sx.over,b8,ln,<-List.map_take]
 have l:ln (Sx.over (b8 2 0 []) 0 (s.a.map Att.row))=ln (s.a.map Att.row):=by simp[Sx.over,b8,ln]
 have m:ln (s.a.map Att.row)=0->([]:Sx.Rows)=s.a.map Att.row:=fun h=>by
  have:s.a=[]:=by simpa [ln]using h
  rw[this];rfl
 have u:ln (rows s.c)<=16:=by simp[ln];omega
 have v:ln (s.a.map Att.row)<=8:=by simp[ln];omega
 have w:0<=ln (rows s.c):=by simp[ln]
 have z:0<=ln (s.a.map Att.row):=by simp[ln]
 have p:ln (List.replicate (ln (rows s.c)).toNat [(.int (0)),(.str ([]:Ae)),(.str ([]:Ae)),(.lst ([]:Sx.Rows)),(.str ([]:Ae)),(.lst ([]:Sx.Rows))]:Sx.Rows)=ln (rows s.c):=by simp[ln]
 simp only[i,j,l,p];cases b;all_goals
  simp only[RZ,if_false,Sv]at F;simp only[Nd,Nr,Ni,false_implies,Rv,RV,not_false_eq_true,RZ,not_true_eq_false,Sa]
  repeat' with_reducible first|exact trivial|exact S|exact B _ _ ‹_› ‹_› |exact F _ _ _ ‹_› ‹_› rfl|exact F _ _ _ ‹_› ‹_› (m ‹_›)|omega| (refine Rc ?_ ?_)|intro _
end Go.D
namespace Go.D
open Go Go.Xe Go.Sx
def DM.nod (D:DM)(c:Nat):Nod:=match D.L[c]? with
 |some s=>s.n|none=>⟨0,[],[],[],0,0,false, -1,[]⟩
def DM.setN (D:DM)(c:Nat)(q:Nod->Nod):DM:= {D with L:=D.L.modify c fun s=> {s with n:=q s.n}}
def DM.cnt (D:DM)(k:Nat):DM:= {D with C:=D.C.modify k (· +1)}
def aR (D:DM)(i g:Int)(t:Str):DM×Int:=match D.at i g with
 |none=>(D,11)
 |some c=>if(D.nod c).kind≠2\/J5 t=false then(D,1)else((D.setN c fun n=> {n with text:=t}).cnt 6,0)
def mS (D:DM)(i g top size:Int)(pin:Bool):DM×Int:=match D.at i g with
 |none=>(D,11)
 |some c=>if(D.nod c).kind≠1 then(D,1)else((D.setN c fun n=> {n with top:=top,size:=size,pin:=pin}).cnt 7,0)
def RlC (D:DM)(S N:Sx.Rows)(fr lv:Int)(cs:Ak):Prop:=Rl D.gen D S N fr lv/\cs=D.C
def Fr (S N S' N':Sx.Rows):Prop:=N.length<=N'.length/\(∀k:Nat,k<N.length->(∀j:Nat,j<S.length->cB S j 1=true->cI S j 3≠k)->N'[k]? =N[k]?)/\
 ∀i:Nat,i<S'.length->cB S' i 1=true->(∃j:Nat,j<S.length/\cB S j 1=true/\cI S j 3=cI S' i 3)\/(N.length:Int)<=cI S' i 3
def mR (S N:Sx.Rows)(fr lv:Int)(cs:Ak):Prop:=∃D K,RlC D S N fr lv cs/\WF D K
def Z5 (S N:Sx.Rows)(fr lv:Int)(cs:Ak)(S' N':Sx.Rows)(fr' lv':Int)(cs':Ak)(f:DM->DM×Prop):Prop:=
 Fr S N S' N'/\ ∀D K,RlC D S N fr lv cs->WF D K->RlC (f D).1 S' N' fr' lv' cs'/\(f D).2
def GV :Ar->Prop
 | [.int i,.int g,.str t,.lst S,.int fr,.int lv,.int a,.int b,.int c,.int d,.int e,.int f,.int h,.int k,.lst _,.lst N]=>U32 i/\U32 g/\mR S N fr lv [a,b,c,d,e,f,h,k]|_=>False
def wJ :Ar->Ar->Prop
 | [.int i,.int g,.str t,.lst S,.int fr,.int lv,.int a,.int b,.int c,.int d,.int e,.int f,.int h,.int k,.lst _,.lst N],[.int x,.lst S',.int fr',.int lv',.int a',.int b',.int c',.int d',.int e',.int f',.int h',.int k',.lst _,.lst N']=>
  Z5 S N fr lv [a,b,c,d,e,f,h,k] S' N' fr' lv' [a',b',c',d',e',f',h',k'] fun D=>((aR D i g t).1,x=(aR D i g t).2)
 |_,_=>False
def Gj :Ar->Prop
 | [.int i,.int g,.int _,.int _,.bool _,.lst S,.int fr,.int lv,.int a,.int b,.int c,.int d,.int e,.int f,.int h,.int k,.lst _,.lst N]=>U32 i/\U32 g/\mR S N fr lv [a,b,c,d,e,f,h,k]|_=>False
def uX :Ar->Ar->Prop
 | [.int i,.int g,.int t,.int z,.bool p,.lst S,.int fr,.int lv,.int a,.int b,.int c,.int d,.int e,.int f,.int h,.int k,.lst _,.lst N],[.int x,.lst S',.int fr',.int lv',.int a',.int b',.int c',.int d',.int e',.int f',.int h',.int k',.lst _,.lst N']=>
  Z5 S N fr lv [a,b,c,d,e,f,h,k] S' N' fr' lv' [a',b',c',d',e',f',h',k'] fun D=>((mS D i g t z p).1,x=(mS D i g t z p).2)
 |_,_=>False
def cStx:=mkD "stx" [hV,sV] GV [iV] wJ
def cPlk:=mkD "plk" [hV,iV,iV,bV] Gj [iV] uX
def Hr :Ay->List (Nat×(Fm->SS->H6)):=W6
def GS :Nat->List (Ay×Con)
 |_=>[(60,cChk),(LVn,cYes "lives")]
def W3 :Nat->Aw->F8
 |_,P=>[(45,kro P U0 cAt),(110,kro P U0 cVld),(48,kro P U0 cPlc),(46,kro P U0 cAbo)]
open Go Go.Xe Go.Sx
def vcStx0 (a:Sx.Rows)(p q:Int)(r:Ae)(b c d f g h i j k l:Int)(m o:Sx.Rows):Prop:=
 Nq (ln a)<|Nd (wJ (.int p::.int q::.str r::JD a b c d f g h i j k l m o) (.int 1::JD a b c d f g h i j k l m o)) True
def vcStx :Prop:=
 ∀p q r a d f g h i j k l c m o b,GV (.int p::.int q::.str r::JD a d f g h i j k l c m o b)->Nq (ln a) (Cg J2 E8 (.int p::.int q::JE a d f g h i j k l c m o) fun R=>∀u,R [.bool u]->((u=true->Nq (ln a) (Cg u7 u5 (.int p::.int q::JE a d f g h i j k l c m o) fun R=>∀s,R [.int s]->Nb s (ln b) ((cI b s 0=2->Cg fN U5 [.int 2,.str [],.str [],.lst [],.str r,.lst []] (fun R=>∀v,R [.int v]->((v=0->Nq (ln a) (Cg u7 u5 (.int p::.int q::JE a d f g h i j k l c m o) fun R=>∀t,R [.int t]->Nb t (ln b) (Nb t (ln b)<|Nd (I64 (c+1))<|Nq (ln a)<|Nd (wJ (.int p::.int q::.str r::JD a d f g h i j k l c m o b) (.int 0::JD a d f g h i j k l (c+1) m o (a8 b t 3 (.str r)))) True)))/\(¬v=0->vcStx0 a p q r d f g h i j k l c m o b))))/\(¬cI b s 0=2->vcStx0 a p q r d f g h i j k l c m o b))))/\(¬u=true->Nq (ln a) (Nd (wJ (.int p::.int q::.str r::JD a d f g h i j k l c m o b) (.int 11::JD a d f g h i j k l c m o b)) True))))
def vcStx_eq :kq Go.Proofs.Tryz.prog cStx Hr (GS 0) (W3 0) 33=vcStx:=by kernel_rfl
def vcPlk :Prop:=
 ∀q r s t u a d f g h i j k l m c o b,Gj (.int q::.int r::.int s::.int t::.bool u::JD a d f g h i j k l m c o b)->Nq (ln a) (Cg J2 E8 (.int q::.int r::JE a d f g h i j k l m c o) fun R=>∀w,R [.bool w]->((w=true->Nq (ln a) (Cg u7 u5 (.int q::.int r::JE a d f g h i j k l m c o) fun R=>∀v,R [.int v]->Nb v (ln b) ((cI b v 0=1->Nq (ln a) (Cg u7 u5 (.int q::.int r::JE a d f g h i j k l m c o) fun R=>∀p,R [.int p]->Nb p (ln b) (Nb p (ln b)<|Nb p (ln b)<|Nb p (ln b)<|Nd (I64 (c+1))<|Nq (ln a)<|Nd (uX (.int q::.int r::.int s::.int t::.bool u::JD a d f g h i j k l m c o b) (.int 0::.lst a::J10 d f g h i j k l m (c+1) [.lst o,.lst (a8 (a8 (a8 b p 4 (.int s)) p 5 (.int t)) p 6 (.bool u))])) True)))/\(¬cI b v 0=1->Nq (ln a) (Nd (uX (.int q::.int r::.int s::.int t::.bool u::JD a d f g h i j k l m c o b) (.int 1::JD a d f g h i j k l m c o b)) True)))))/\(¬w=true->Nq (ln a) (Nd (uX (.int q::.int r::.int s::.int t::.bool u::JD a d f g h i j k l m c o b) (.int 11::JD a d f g h i j k l m c o b)) True))))
def vcPlk_eq :kq Go.Proofs.Tryz.prog cPlk Hr (GS 0) (W3 0) 36=vcPlk:=by kernel_rfl
