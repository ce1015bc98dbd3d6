/- Trees: the conditions of walk and of Check hold.
  Conditions: none. -/
import Derived.Test.YtoegfalhkackeaaGreatA2
set_option maxRecDepth 100000
set_option linter.all false
noncomputable section
namespace Go.D
open Go Go.Xe Go.Sx
def L5 (s:c9):U7 s↔Y4 s/\AllAs s.c:=by cases s;unfold U7;rfl
def wI (s:c9):s.size=c9.sizes s.c+1:=by cases s;rfl
def yX (s:c9):s.depth=c9.depths s.c+1:=by cases s;rfl
def oH (l m:List c9):AllAs (l++m)↔AllAs l/\AllAs m:=by
 induction l with
 |nil=>simp[AllAs]|cons a l b=>simp[AllAs,b,and_assoc]
def iY (l m:List c9):c9.sizes (l++m)=c9.sizes l+c9.sizes m:=by
 induction l with
 |nil=>simp[c9.sizes]|cons a l b=>simp only[c9.sizes,Uf,b];omega
def kN (l m:List c9):c9.depths (l++m)=max (c9.depths l) (c9.depths m):=by
 induction l with
 |nil=>simp[c9.depths]|cons a l b=>simp only[c9.depths,Uf,b];omega
def EJ (l:List c9)(k:Nat):c9.sizes (l.take k)<=c9.sizes l:=by rw(occs:= .pos [2]) [<-UI k l];rw[iY];omega
def yY (l:List c9)(k:Nat):c9.depths (l.take k)<=c9.depths l:=by rw(occs:= .pos [2]) [<-UI k l];rw[kN];omega
variable {l:List c9}
def FE (h:AllAs l)(k:Nat):AllAs (l.take k):=by rw[<-UI k l,oH]at h;exact h.1
theorem iE (h:AllAs l){k:Nat}{a:c9}(c:l[k]? =some a):U7 a:=by
 induction l generalizing k with
 |nil=>grind|cons b l d=>cases k with
  |zero=>cases c;exact h.1
  |succ k=>exact d h.2 (by simpa using c)
def NI (s:c9):1<=s.size:=by rw[wI];omega
theorem mF {s:c9}(h:Y4 s):s.c.length<=16/\s.a.length<=8:=by rcases h<;>grind
def bad {p q:Prop}(h:¬p):(false=true↔p)/\(false=true->q):=⟨D9 h,λe=>(by cases e)⟩
def MP (c:c9):c9.sizes [c]=c.size:=by simp[c9.sizes]
def Qv (c:c9):c9.depths [c]=c.depth:=by simp[c9.depths]
def nh (n:Nat):qg n:=by
 rintro _ lv n0 z ⟨⟨⟨s,rfl⟩,h1,h2,h3,h4,D,f⟩,hm⟩;simp only[iA]at hm;simp only[Nd,ln,I64,cL,LD,Xu,t5,cR,Tm,z7,fO,H3,eH,iA,iB,AS,Um,Up,Ul,vR,forall_eq',exists_eq',Ug,TN];refine⟨⟨by omega,by omega⟩,λ_=>⟨λj=>?_,λj=>?_⟩⟩;all_goals
  have p:=wI s;have o:=yX s;refine⟨λh=>⟨by omega,by omega,by omega,by omega,bad λg=>?_⟩,λf=>⟨λh=>⟨by omega,by omega,by omega,by omega,bad λg=>?_⟩,λi b hb=>⟨λe=>⟨⟨by omega,by omega,by omega,by omega,trivial,by simp[c9.sizes],by omega,by simp only[Int.toNat_zero,List.take_zero,c9.depths];omega,by omega,by simp only[Int.toNat_zero,List.take_zero,c9.depths];omega,by omega⟩,λ_ k n' y ⟨k0,_,_,k1,k2,k3,k4,q,E,r,_⟩=>⟨λhk=>?_,λhk=>?_⟩⟩,λe=>⟨by omega,by omega,by omega,by omega,bad λg=>e (hb.2 ((L5 s).1 g.1).1)⟩⟩⟩⟩;have:=g.2.1;omega;have:=g.2.2;omega;obtain⟨c,hc⟩:=Sx.get_at k0 hk;have:=mF (hb.1 e);have hs1:=EJ s.c (k+1).toNat;have hd1:=yY s.c (k+1).toNat;simp only[MR hc,Um,Up,vR,forall_eq',exists_eq',Ul];simp only[p6 k0 hc,iY,MP,kN,Qv]at hs1 hd1⊢;refine⟨by omega,λ_=>⟨hk,λ_=>⟨⟨by omega,by omega⟩,λ_=>⟨⟨⟨by omega,by omega,by omega,by omega,by omega,by omega⟩,by omega⟩,λ_ b' m A ⟨t,u,v,w,a,x⟩=>⟨λe'=>?_,λe'=>?_⟩⟩⟩⟩⟩;obtain⟨d,B,C⟩:=a.1 e';obtain⟨F,G⟩:=x e';exact⟨⟨by omega,by omega⟩,λ_=>⟨⟨by omega,by omega,by omega,by omega,(oH _ _).2 ⟨k2,d,trivial⟩,by omega,by omega,by omega,by omega,by omega,by omega⟩,λ_=>by omega⟩⟩;refine⟨t,u,v,w,bad λg=>e' (a.2 ⟨iE ((L5 s).1 g.1).2 hc,?_,?_⟩)⟩;have:=g.2.1;omega;have:=g.2.2;omega
  .rw[A3 (by omega)]at k2 k3 q r;have g:Good s lv n0:=⟨(L5 s).2 ⟨hb.1 e,k2⟩,by omega,by omega⟩
   exact⟨by omega,by omega,by omega,by omega,⟨λ_=>g,λ_=>trivial⟩,by omega,by omega⟩
def no14 {p:Prop}(h:¬p):((14:Int)=0↔p):=⟨λe=>absurd e (by decide),λe=>absurd e h⟩
def yn :Wf:=by
 rintro _ _ _ _ _ _ ⟨s,rfl,rfl,rfl,rfl,rfl,rfl⟩;have e:pQ (b8 6 1 [(.i s.k),(.s s.t),(.s s.y),(.l (s.a.map Att.row)),(.s s.x),(.l (rows s.c))]) 0 1=[s.row]:=by rw[U5];rfl
 simp only[Nd,e,eH,H3,T5,H5,Um,Up,vR,forall_eq',forall_eq,exists_eq',Ul,Ug];refine⟨by omega,λ_ b n d ⟨h1,h2,h3,h4,f,j⟩=>⟨λe=>?_,λe=>⟨no14 λh=>absurd (f.2 ⟨h.1,by have:=h.2.2;omega,by have:=h.2.1;omega⟩) e,.inr trivial⟩⟩⟩;obtain⟨g,m,o⟩:=f.1 e;have:=(j e).1;have:=NI s;exact⟨λh=>by omega,λ_=>⟨⟨λ_=>⟨g,by omega,by omega⟩,λ_=>trivial⟩,.inl trivial⟩⟩
open Go Go.Xe Go.Sx
theorem set6 {L:a8}{i:Int}{a b c d e f:Dat}(h0:0<=i)(h:i<(L.length:Int))(hr:∀r∈L,r.length=6):a9 (a9 (a9 (a9 (a9 (a9 L i 0 a) i 1 b) i 2 c) i 3 d) i 4 e) i 5 f=L.set i.toNat [a,b,c,d,e,f]:=by
 obtain⟨r,hg⟩:=Sx.get_at h0 h;have g:=hr r (Td hg)
 match r,g with
 | [_,_,_,_,_,_],_=>refine List.ext_getElem? λj=>?_;simp only[a9,List.getElem?_modify,List.getElem?_set];by_cases e:i.toNat=j;subst e;simp[hg];omega;grind
def Og {α:Type}{L:List α}{i:Int}{a:α}(h0:0<=i)(h:i<(L.length:Int)):(L.set i.toNat a).take (i+1).toNat=L.take i.toNat++ [a]:=by rw[p6 h0 (by rw[List.getElem?_set_self (by omega)]),List.take_set_of_le (Tq _)]
def Hr (b:Bool)(l m:List c9):strips b (l++m)=strips b l++strips b m:=by
 induction l with
 |nil=>simp[strips]|cons a l c=>simp[strips,c]
def Pp (c:c9):c.row.length=6:=by rw[U5];rfl
theorem wR :∀ {l:List c9} {k:Nat} {c:c9},l[k]? =some c->szRs (rows c.c)<szRs (rows l)
 | [],k,c,h=>by grind|a::l,0,c,h=>by cases h;show _<szR a.row+1+szRs (rows l);rw[U5];simp only[szR,szD];omega
 |a::l,k+1,c,h=>by have:=wR (by simpa using h);show _<szR a.row+1+szRs (rows l);omega
def BG {s:c9}{k:Int}{t y x:Str}{a c:a8}(h:isT s k t y a x c): [Dat.i k,.s t,.s y,.l a,.s x,.l c]=s.row:=by obtain⟨rfl,rfl,rfl,rfl,rfl,rfl⟩:=h;exact(U5 s).symm
theorem LI (n:Nat)(s:c9)(b:Bool)(f:U7 s)(hn:szRs (rows s.c)<n+1)(k:Int)(D:a8)(hi:L6 [.l (rows s.c),.b b] [.i k,.l D])(hk:k<((rows s.c).length:Int)):dj n k (rows s.c) b D:=by
 obtain⟨k0,k1,k2,k3⟩:=hi;obtain⟨k3,k4⟩:=k3 s.c rfl;rw[Tm]at k1 k2 hk;obtain⟨c,hc⟩:=Sx.get_at k0 hk;have f:=(L5 s).1 f;have j:=(mF f.1).1;have g:=iE f.2 hc;have d:=wR hc;have d:szRs (rows c.c)<n:=by omega
 simp only[dj,Nd,Nr,Ni,ln,I64,cI,cS,cL,Q3 hc,t0,t1,t2,t3,t4,t5,jD,C7,cR,Tm,tK,yT,Y8,LJ,A2,H5,forall_eq,exists_eq_left,Ul,TN,Ug,Up,k2];refine⟨by omega,λ_=>⟨hk,λ_=>⟨⟨g,d⟩,λ_ k' t y a x c' m=>⟨by omega,λ_=>⟨by omega,λ_=>⟨Int.lt_irrefl _,λ_=>⟨by omega,λ_=>⟨⟨by omega,by omega⟩,λ_=>⟨by omega,λ_=>⟨by omega,λ_=>⟨?_,λ_=>by omega⟩⟩⟩⟩⟩⟩⟩⟩⟩⟩⟩;rw[set6 k0 (by omega) k4,BG m];refine⟨by omega,by grind,by grind,λo e=>?_⟩;rw[<-Cn.mp e,Og k0 (by omega),p6 k0 hc,Hr,k3];refine⟨by simp[rows,strips],λr hr=>?_⟩;rcases List.mem_or_eq_of_mem_set hr with h|rfl;grind;exact Pp _
theorem yf (n:Nat):Wc n:=by
 rintro _ _ _ _ _ _ b ⟨⟨s,⟨rfl,rfl,rfl,rfl,rfl,rfl⟩,g⟩,hn⟩;have B:=LI n s b g hn;have f:=(L5 s).1 g;obtain⟨q,v⟩:=mF f.1;have S:L6 [.l (rows s.c),.b b] [.i 0,.l (pQ (List.replicate ((ln (rows s.c))).toNat [(.i (0)),(.s ([]:Ae)),(.s ([]:Ae)),(.l ([]:a8)),(.s ([]:Ae)),(.l ([]:a8))]:a8) 0 (ln (rows s.c)))]:=by refine⟨by omega,by omega,by simp[pQ],λc e=>⟨by simp[strips],λr hr=>?_⟩⟩;rw[(List.mem_replicate.1 (UB hr)).2];rfl
 have F:∀k D d,L6 [.l (rows s.c),.b b] [.i k,.l D]-> ¬k<ln (rows s.c)->d=s.a.map Att.row->Y8 [.i s.k,.s s.t,.s s.y,.l (s.a.map Att.row),.s s.x,.l (rows s.c),.b b] [.i s.k,.s s.t,.s (if b then s.y else []),.l d,.s s.x,.l D]:=by intro k D d ⟨k0,k1,k2,k3⟩ hk e;obtain⟨k3,_⟩:=k3 s.c rfl;unfold ln at hk;rw[A3 (by omega),A3 (by grind)]at k3;intro s' h;rw[H5]at h;subst h;subst e;subst k3;cases s';exact⟨rfl,rfl,rfl,rfl,rfl,rfl⟩
 have j:b8 2 0 []++s.a.map Att.row=s.a.map Att.row:=rfl;have m:pQ (Sx.over (b8 2 0 []) 0 (s.a.map Att.row)) 0 (ln (s.a.map Att.row))=s.a.map Att.row:=by simp[pQ,Sx.over,b8,ln,<-List.map_take]
 have o:ln (Sx.over (b8 2 0 []) 0 (s.a.map Att.row))=ln (s.a.map Att.row):=by simp[Sx.over,b8,ln]
 have p:ln (s.a.map Att.row)=0->([]:a8)=s.a.map Att.row:=λh=>by
  have:s.a=[]:=by simpa [ln]using h
  rw[this];rfl
 have w:ln (rows s.c)<=16:=by simp[ln];omega
 have z:ln (s.a.map Att.row)<=8:=by simp[ln];omega
 have A:0<=ln (rows s.c):=by simp[ln]
 have C:0<=ln (s.a.map Att.row):=by simp[ln]
 have u:ln (List.replicate (ln (rows s.c)).toNat [(.i (0)),(.s ([]:Ae)),(.s ([]:Ae)),(.l ([]:a8)),(.s ([]:Ae)),(.l ([]:a8))]:a8)=ln (rows s.c):=by simp[ln]
 simp only[j,m,o,u];cases b;all_goals
  simp only[Uo,if_false,UG]at F;simp only[Nd,Nr,Ni,false_implies,TN,Ul,not_false_eq_true,Uo,not_true_eq_false,Up]
  repeat' with_reducible first|exact trivial|exact S|exact B _ _ ‹_› ‹_› |exact F _ _ _ ‹_› ‹_› rfl|exact F _ _ _ ‹_› ‹_› (p ‹_›)|omega| (refine Tw ?_ ?_)|intro _
end Go.D
namespace Go.D
open Go Go.Xe Go.Sx
def DM.nod (D:DM)(c:Nat):Nod:=match D.L[c]? with
 |some s=>s.n|none=>⟨0,[],[],[],0,0,false, -1,[]⟩
def DM.setN (D:DM)(c:Nat)(q:Nod->Nod):DM:= {D with L:=D.L.modify c λs=> {s with n:=q s.n}}
def DM.cnt (D:DM)(k:Nat):DM:= {D with C:=D.C.modify k (· +1)}
def aU (D:DM)(i g:Int)(t:Str):DM×Int:=match D.at i g with
 |none=>(D,11)
 |some c=>if(D.nod c).kind≠2\/H9 t=false then(D,1)else((D.setN c λn=> {n with text:=t}).cnt 6,0)
def mY (D:DM)(i g top size:Int)(pin:Bool):DM×Int:=match D.at i g with
 |none=>(D,11)
 |some c=>if(D.nod c).kind≠1 then(D,1)else((D.setN c λn=> {n with top:=top,size:=size,pin:=pin}).cnt 7,0)
def RlC (D:DM)(S N:a8)(fr lv:Int)(cs:Ak):Prop:=Rl D.gen D S N fr lv/\cs=D.C
def Fr (S N S' N':a8):Prop:=N.length<=N'.length/\(∀k:Nat,k<N.length->(∀j:Nat,j<S.length->cB S j 1=true->cI S j 3≠k)->N'[k]? =N[k]?)/\
 ∀i:Nat,i<S'.length->cB S' i 1=true->(∃j:Nat,j<S.length/\cB S j 1=true/\cI S j 3=cI S' i 3)\/(N.length:Int)<=cI S' i 3
def rD (S N:a8)(fr lv:Int)(cs:Ak):Prop:=∃D K,RlC D S N fr lv cs/\WF D K
def Z5 (S N:a8)(fr lv:Int)(cs:Ak)(S' N':a8)(fr' lv':Int)(cs':Ak)(f:DM->DM×Prop):Prop:=
 Fr S N S' N'/\ ∀D K,RlC D S N fr lv cs->WF D K->RlC (f D).1 S' N' fr' lv' cs'/\(f D).2
def Hs :Ar->Prop
 | [.i i,.i g,.s t,.l S,.i fr,.i lv,.i a,.i b,.i c,.i d,.i e,.i f,.i h,.i k,.l _,.l N]=>U32 i/\U32 g/\rD S N fr lv [a,b,c,d,e,f,h,k]|_=>False
def wP :Ar->Ar->Prop
 | [.i i,.i g,.s t,.l S,.i fr,.i lv,.i a,.i b,.i c,.i d,.i e,.i f,.i h,.i k,.l _,.l N],[.i x,.l S',.i fr',.i lv',.i a',.i b',.i c',.i d',.i e',.i f',.i h',.i k',.l _,.l N']=>
  Z5 S N fr lv [a,b,c,d,e,f,h,k] S' N' fr' lv' [a',b',c',d',e',f',h',k'] λD=>((aU D i g t).1,x=(aU D i g t).2)
 |_,_=>False
def GH :Ar->Prop
 | [.i i,.i g,.i _,.i _,.b _,.l S,.i fr,.i lv,.i a,.i b,.i c,.i d,.i e,.i f,.i h,.i k,.l _,.l N]=>U32 i/\U32 g/\rD S N fr lv [a,b,c,d,e,f,h,k]|_=>False
def uZ :Ar->Ar->Prop
 | [.i i,.i g,.i t,.i z,.b p,.l S,.i fr,.i lv,.i a,.i b,.i c,.i d,.i e,.i f,.i h,.i k,.l _,.l N],[.i x,.l S',.i fr',.i lv',.i a',.i b',.i c',.i d',.i e',.i f',.i h',.i k',.l _,.l N']=>
  Z5 S N fr lv [a,b,c,d,e,f,h,k] S' N' fr' lv' [a',b',c',d',e',f',h',k'] λD=>((mY D i g t z p).1,x=(mY D i g t z p).2)
 |_,_=>False
def Wp:=mkD "stx" [hV,sV] Hs [iV] wP
def Wz:=mkD "plk" [hV,iV,iV,bV] GH [iV] uZ
def HP :Ay->List (Nat×(Fm->SS->F9)):=W3
def Ho :Nat->List (Ay×Con)
 |_=>[(42,fp),(LVn,cq "lives")]
def V8 :Nat->Aw->D4
 |_,P=>[(68,kro P U0 cAt),(97,kro P U0 Wm),(71,kro P U0 WA),(69,kro P U0 WS)]
open Go Go.Xe Go.Sx
def gx (a:a8)(q r:Int)(t:Ae)(b c d f g h j k l m:Int)(o p:a8):Prop:=
 We (JD a b c d f g h j k l m o p) λV=>Nq (ln a)<|Nd (wP (.i q::.i r::.s t::V) (.i 1::V)) True
def rf :Prop:=
 ∀t u v a f g h j k m o p d q r c,Hs (.i t::.i u::.s v::JD a f g h j k m o p d q r c)->We (JD a f g h j k m o p d q r c) λW=>We (.i t::.i u::JE a f g h j k m o p d q r) λV=>Nq (ln a) (Cg I0 E2 V λR=>∀y,R [.b y]->((y=true->Nq (ln a) (Cg u9 u6 V λR=>∀w,R [.i w]->Nb w (ln c) ((cI c w 0=2->Cg fV T5 [.i 2,.s [],.s [],.l [],.s v,.l []] (λR=>∀z,R [.i z]->((z=0->Nq (ln a) (Cg u9 u6 V λR=>∀x,R [.i x]->Nb x (ln c) (Nb x (ln c)<|Nd (I64 (d+1))<|Nq (ln a)<|Nd (wP (.i t::.i u::.s v::W) (.i 0::JD a f g h j k m o p (d+1) q r (a9 c x 3 (.s v)))) True)))/\(¬z=0->gx a t u v f g h j k m o p d q r c))))/\(¬cI c w 0=2->gx a t u v f g h j k m o p d q r c))))/\(¬y=true->Nq (ln a) (Nd (wP (.i t::.i u::.s v::W) (.i 11::W)) True))))
def rc :kq Wp HP (Ho 0) (V8 0) 126=rf:=by kernel_rfl
def uz :Prop:=
 ∀t u v w x a f g h j k m o p q d r c,GH (.i t::.i u::.i v::.i w::.b x::JD a f g h j k m o p q d r c)->We (JD a f g h j k m o p q d r c) λX=>We (.i t::.i u::JE a f g h j k m o p q d r) λW=>We (.i t::.i u::.i v::.i w::.b x::X) λV=>Nq (ln a) (Cg I0 E2 W λR=>∀z,R [.b z]->((z=true->Nq (ln a) (Cg u9 u6 W λR=>∀y,R [.i y]->Nb y (ln c) ((cI c y 0=1->Nq (ln a) (Cg u9 u6 W λR=>∀s,R [.i s]->Nb s (ln c) (Nb s (ln c)<|Nb s (ln c)<|Nb s (ln c)<|Nd (I64 (d+1))<|Nq (ln a)<|Nd (uZ V (.i 0::.l a::J10 f g h j k m o p q (d+1) [.l r,.l (a9 (a9 (a9 c s 4 (.i v)) s 5 (.i w)) s 6 (.b x))])) True)))/\(¬cI c y 0=1->Nq (ln a) (Nd (uZ V (.i 1::X)) True)))))/\(¬z=true->Nq (ln a) (Nd (uZ V (.i 11::X)) True))))
def uw :kq Wz HP (Ho 0) (V8 0) 130=uz:=by kernel_rfl
variable {q:Prop}
def nin {a:Int}(h:q):Ni a q:=⟨Int.lt_irrefl a,λ_=>h⟩
def nrn {a:Int}(h:q):Nr a q:=⟨rfl,λ_=>h⟩
def ndi {p:Prop}(hp:p)(h:q):Sx.Nd p q:=⟨hp,λ_=>h⟩
def ndt {p:Prop}(hp:p):Sx.Nd p True:=⟨hp,λ_=>trivial⟩
def l8 {α:Type}(l:List α)(i j:Nat)(f:α->α):(l.modify i f)[j]? =if i=j then l[j]?.map f else l[j]? :=by rw[List.getElem?_modify];by_cases e:i=j<;>cases l[j]? <;>simp[e]
def zU {L:List Sl}{f:Sl->Sl}(hf:∀s,(f s).used=s.used):∀c,(L.modify c f).countP (·.used)=L.countP (·.used):=by
 induction L with
 |nil=>intro c;simp
 |cons a L d=>intro c;cases c<;>simp[List.countP_cons,hf,d]
section
variable {D :DM}{S N S' N':a8}{fr lv i g x y:Int}{K a b c p:Nat}{G:Nat->Nat}{T:List RS}{M:List RN}{cs:Ak}
def Rl.slen (h:Rl G D S N fr lv)(w:WF D K):S.length<=1000:=by obtain⟨T,M,rfl,rfl,h⟩:=h;rw[Tm,h.len];have:=w.lim;omega
def Rl.vld (h:Rl G D S N fr lv):t9 S i g=true↔ ∃k,D.at i g=some k:=by obtain⟨T,M,rfl,rfl,h⟩:=h;exact h.vld
def DM.nod_of {s:Sl}(h:D.L[c]? =some s):D.nod c=s.n:=by unfold DM.nod;rw[h]
def UZ:type_of% @DM.nod_of:=@DM.nod_of
def Fr.refl :Fr S N S N:=⟨Tq _,λ_ _ _=>rfl,λj h1 h2=>.inl ⟨j,h1,h2,rfl⟩⟩
def Ve:type_of% @Fr.refl:=@Fr.refl
def Fr.mod (h:Fr S N S N'){j:Nat}(hj:j<S.length)(d:cB S j 1=true){F:Ar->Ar}(hp:0<=cI S j 3):Fr S N S (N'.modify (cI S j 3).toNat F):=by obtain⟨h1,h2,h3⟩:=h;refine⟨by simpa using h1,λq hq hn=>?_,h3⟩;have:=hn j hj d;rw[l8,Tn (by omega),<-h2 q hq hn]
variable {q:Nod->Nod}
def RlT.nodes (h:RlT G D T M fr lv){r:RS}{s:Sl}(hs:D.L[c]? =some s)(l:s.used=true)(hr:T[c]? =some r){f:RN->RN}(hq:(q s.n).rn G=f (s.n.rn G)):RlT G (D.setN c q) T (M.modify r.p.toNat f) fr lv:=by
 have d:=h.row c s hs;have get:∀j,(D.setN c q).L[j]? =if c=j then D.L[j]?.map (λs=> {s with n:=q s.n})else D.L[j]? :=λj=>l8 ..
 refine⟨by unfold DM.setN;simpa using h.len,λj s' hj=>?_,h.inj,h.free,h.nodup,λj s' hj hn=>?_,?_⟩;rw[get]at hj;by_cases e:c=j;subst e;rw[Tp rfl,hs]at hj;cases hj;obtain⟨m,h1,h2,h3,h4⟩:=d;rw[hr]at h1;cases h1;refine⟨r,hr,h2,h3,λ_=>?_⟩;obtain⟨o,t⟩:=h4 l;exact⟨o,by rw[l8,Tp rfl,t];simp[hq]⟩;rw[Tn e]at hj;obtain⟨m,h1,h2,h3,h4⟩:=h.row j s' hj;refine⟨m,h1,h2,h3,λk=>?_⟩;obtain⟨o,t⟩:=h4 k;obtain⟨r0,k1,k2,k3,k4⟩:=d;rw[hr]at k1;cases k1;have u:r.p≠m.p:=λhe=>e (h.inj c j r m hr h1 (k3.trans l) (h3.trans k) he);have:=(k4 l).1;exact⟨o,by rw[l8,Tn (by omega)];exact t⟩;rw[get]at hj;by_cases e:c=j;subst e;rw[Tp rfl,hs]at hj;cases hj;exact absurd (l.symm.trans hn) (by simp);rw[Tn e]at hj;exact h.all j s' hj hn;rw[h.lv];exact congrArg Int.ofNat (zU (f:=λs=> {s with n:=q s.n}) (λ_=>rfl) c).symm
def DM.setN_gen :(D.setN c q).gen=D.gen:=by funext j;unfold DM.gen DM.setN;simp only[l8];by_cases e:c=j<;>cases D.L[j]? <;>simp[e]
def Rl.spot (h:Rl G D S N fr lv)(hk:D.at i g=some c):∃s,D.L[c]? =some s/\s.used=true/\c<S.length/\cB S c 1=true/\cI S c 3=atF S i g/\0<=atF S i g/\atF S i g<N.length/\(∀j,z8 N (atF S i g) j=(s.n.rn G).row.getD j (.i 0)):=by
 obtain⟨s,h1,h2,h3,h4,k,l,m⟩:=h.node hk;obtain⟨T,M,rfl,rfl,h⟩:=h;obtain⟨s',r,k1,k2,k3,k4,d,o,u,v⟩:=h.at_ hk;rw[h1]at k2;cases k2;have hl:=(SW.1 d).1;obtain⟨z,e,w,t,_⟩:=h.row c s h1;rw[d]at e;cases e;have hc:T[((c:Nat):Int).toNat]? =some r:=by rw[TK];exact d
 refine⟨s,h1,h3,by rw[Tm];exact hl,?_,?_,k,l,m⟩;unfold cB;rw[d9 hc];simp[RS.row,Dat.toBool,t,h3];unfold cI;rw[d9 hc,o];rfl
def rK {t:Str}:E3 (.mk 2 [] [] [] t [])↔H9 t=true:=by simp[E3,U7,AllAs,Y4,c9.k,c9.x,c9.t,c9.y,c9.a,c9.c,c9.size,c9.sizes,c9.depth,c9.depths]
def WF.i64 (w:WF D K){k:Nat}{x:Int}(h:D.C[k]? =some x):I64 (x+1):=by
 obtain⟨a,b,c,d,e,f,h',h1,_,h3,h4⟩:=w.cnt;have:=w.lim;have hx:x∈D.C:=Td h;have hl:(D.L.countP (·.used):Int)<=K:=by have:=List.countP_le_length (p:=λs:Sl=>s.used) (l:=D.L);omega
 rw[h1]at hx;have:0<=x/\x<=K:=by rcases TH.1 hx with rfl|hx;omega;exact h4 x hx
 unfold I64;omega
def RlT.cnt (h:RlT G D T M fr lv)(k:Nat):RlT G (D.cnt k) T M fr lv:=⟨h.len,h.row,h.inj,h.free,h.nodup,h.all,h.lv⟩
def Rl.cnt (h:Rl G D S N fr lv)(k:Nat):Rl G (D.cnt k) S N fr lv:=by obtain⟨T,M,h1,h2,h⟩:=h;exact⟨T,M,h1,h2,h.cnt k⟩
variable {F:Ar->Ar}
def Gw {α:Type}{f:α->Ar}{L:List α}{i:Nat}(q:α->α)(h:∀a,F (f a)=f (q a)):(L.map f).modify i F=(L.modify i q).map f:=by
 apply List.ext_getElem?;intro k;simp only[l8,TU];cases L[k]? with
 |none=>simp|some a=>by_cases e:i=k<;>simp[e,h]
def Rl.mod (h:Rl G D S N fr lv)(hk:D.at i g=some c){q:Nod->Nod}{q':RN->RN}{F:Ar->Ar}(hq:∀r:RN,F r.row=(q' r).row)(d:∀n,(q n).rn G=q' (n.rn G)):Rl G (D.setN c q) S (N.modify (atF S i g).toNat F) fr lv:=by obtain⟨T,M,rfl,rfl,h⟩:=h;obtain⟨s,r,k1,k2,k3,k4,e,j,k,l⟩:=h.at_ hk;refine⟨T,M.modify r.p.toNat q',rfl,by rw[j];exact Gw q' hq,h.nodes k2 k3 e (d _)⟩
def Rl.frame (h:Rl G D S N fr lv)(hk:D.at i g=some c)(hF:Fr S N S N'):Fr S N S (N'.modify (atF S i g).toNat F):=by obtain⟨s,h1,h2,h3,h4,d,e,j,k⟩:=h.spot hk;rw[<-d];exact hF.mod h3 h4 (by rw[d];exact e)
variable {f:DM->DM ×Prop}
def GF (hv:t9 S i g=true){k:Nat}{q':RN->RN}{cs':Ak}(hq:∀r:RN,F r.row=(q' r).row)(j:∀G n,(q n).rn G=q' (n.rn G))(h:cs'=cs.modify k (· +1))(o:N'=N.modify (atF S i g).toNat F)(hf:∀D K c,RlC D S N fr lv cs->WF D K->D.at i g=some c->(f D).1=(D.setN c q).cnt k/\(f D).2):(∃D K,RlC D S N fr lv cs/\WF D K)->Z5 S N fr lv cs S N' fr lv cs' f:=by rintro ⟨u,v,d,t⟩;subst o;refine⟨?_,λD K e s=>?_⟩;obtain⟨c,hc⟩:=d.1.vld.1 hv;exact d.1.frame hc Ve;obtain⟨c,hc⟩:=e.1.vld.1 hv;obtain⟨l,m⟩:=hf D K c e s hc;refine⟨?_,m⟩;rw[l];refine⟨?_,by rw[h,e.2];rfl⟩;have:((D.setN c q).cnt k).gen=D.gen:=DM.setN_gen;rw[this];exact(e.1.mod hc hq (j _)).cnt k
def D2 (hf:∀D K,RlC D S N fr lv cs->WF D K->(f D).1=D/\(f D).2):Z5 S N fr lv cs S N fr lv cs f:=
 ⟨Ve,λD K d e=>⟨by rw[(hf D K d e).1];exact d,(hf D K d e).2⟩⟩
def Rl.none (h:Rl G D S N fr lv)(hv:¬t9 S i g=true):D.at i g=none:=by
 cases e:D.at i g with
 |none=>rfl|some k=>exact absurd (h.vld.2 ⟨k,e⟩) hv
def ra :rf:=by
 unfold rf;intro i g t S fr lv c0 C E H I J L O st N h;obtain⟨hi,hg,hp⟩:=h;have hp':=hp;obtain⟨D,K,⟨A,hc⟩,v⟩:=hp;have j:u9 [.i i,.i g,.l S,.i fr,.i lv,.i c0,.i C,.i E,.i H,.i I,.i J,.i L,.i O,.l st]:=⟨hi,hg,A.slen v⟩
 refine nin (nrn (ndi j λb hb=>⟨λm=>?_,λB=>nin (nrn (ndt ?_))⟩))
 .have hb:b=t9 S i g:=hb;subst hb;obtain⟨c,d⟩:=A.vld.1 m;obtain⟨s,h1,h2,h3,h4,P,Q,u,z⟩:=A.spot d;have bad:((cI N (atF S i g) 0)≠2\/H9 t=false)->gx S i g t fr lv c0 C E H I J L O st N:=by
   intro w;unfold gx;refine nin (nrn (ndt (D2 λD K o v=>?_)));obtain⟨c,d⟩:=o.1.vld.1 m;obtain⟨s,h1,h2,h3,h4,P,Q,u,z⟩:=o.1.spot d;have:(D.nod c).kind≠2\/H9 t=false:=by
    rw[UZ h1];have:cI N (atF S i g) 0=s.n.kind:=by unfold cI;rw[z];rfl
    rwa[this]at w
   unfold aU;rw[d];simp only;rw[Tp this];exact⟨rfl,rfl⟩
  refine nin (nrn (ndi j λp hp=>?_));have hp:p=atF S i g:=hp;subst hp;refine ndi (by omega) (ndi u ⟨λhk=>ndi ⟨.mk 2 [] [] [] t [],rfl,rfl,rfl,rfl,rfl,rfl⟩ λn hn=>?_,λhk=>bad (.inl hk)⟩);have hv:=(hn (.mk 2 [] [] [] t []) ⟨rfl,rfl,rfl,rfl,rfl,rfl⟩).1;rw[rK]at hv;refine⟨λh0=>nin (nrn (ndi j λp hp=>?_)),λh0=>bad (.inr (by simpa using λh=>h0 (hv.2 h)))⟩;have hp:p=atF S i g:=hp;subst hp;refine ndi (by omega) (ndi u (ndi (by omega) (ndi u (ndi (v.i64 (k:=6) (by rw[<-hc];rfl)) (nin (nrn (ndt ?_)))))));refine GF (q:=λn=> {n with text:=t}) (q':=λr=> {r with text:=t}) (F:=λr=>r.set 3 (.s t)) (k:=6) m (λ_=>rfl) (λ_ _=>rfl) rfl rfl (λD K c o v d=>?_) hp';obtain⟨s,h1,h2,h3,h4,P,Q,u,z⟩:=o.1.spot d;have e:cI N (atF S i g) 0=s.n.kind:=by unfold cI;rw[z];rfl
  rw[e]at hk;unfold aU;rw[d];simp only;rw[UZ h1,Tn (by simp[hk,hv.1 h0])];exact⟨rfl,rfl⟩
 have hb:b=t9 S i g:=hb;subst hb;refine D2 λD K o v=>?_;unfold aU;rw[o.1.none B];exact⟨rfl,rfl⟩
def B6 {α:Type}{L:List α}{i:Nat}{f h:α->α}:(L.modify i f).modify i h=L.modify i (λa=>h (f a)):=by apply List.ext_getElem?;intro k;simp only[l8];by_cases e:i=k<;>cases L[k]? <;>simp[e]
def uv :uz:=by
 unfold uz;intro i g t z b S fr lv c0 B C E H I J L st N h;obtain⟨hi,hg,hp⟩:=h;have hp':=hp;obtain⟨D,K,⟨v,hc⟩,u⟩:=hp;have j:u9 [.i i,.i g,.l S,.i fr,.i lv,.i c0,.i B,.i C,.i E,.i H,.i I,.i J,.i L,.l st]:=⟨hi,hg,v.slen u⟩
 refine nin (nrn (ndi j λw hb=>⟨λm=>?_,λA=>nin (nrn (ndt ?_))⟩))
 .have hb:w=t9 S i g:=hb;subst hb;obtain⟨c,d⟩:=v.vld.1 m;obtain⟨s,h1,h2,h3,h4,P,Q,o,O⟩:=v.spot d;have kd:∀ {D:DM} {c:Nat},RlC D S N fr lv [c0,B,C,E,H,I,J,L]->D.at i g=some c->(D.nod c).kind=cI N (atF S i g) 0:=by intro D c e d;obtain⟨s,h1,h2,h3,h4,P,Q,o,O⟩:=e.1.spot d;rw[UZ h1];unfold cI;rw[O];rfl
  refine nin (nrn (ndi j λp hp=>?_));have hp:p=atF S i g:=hp;subst hp;refine ndi (by omega) (ndi o ⟨λhk=>nin (nrn (ndi j λp hp=>?_)),λhk=>nin (nrn (ndt (D2 λD K e u=>?_)))⟩);have hp:p=atF S i g:=hp;subst hp;refine ndi (by omega) (ndi o (ndi (by omega) (ndi o (ndi (by omega) (ndi o (ndi (by omega) (ndi o (ndi (u.i64 (k:=7) (by rw[<-hc];rfl)) (nin (nrn (ndt ?_)))))))))));refine GF (q:=λn=> {n with top:=t,size:=z,pin:=b}) (q':=λr=> {r with top:=t,size:=z,pin:=b}) (F:=λr=>((r.set 4 (.i t)).set 5 (.i z)).set 6 (.b b)) (k:=7) m (λ_=>rfl) (λ_ _=>rfl) rfl ?_ (λD K c e u d=>?_) hp';unfold a9;rw[B6,B6];unfold mY;rw[d];simp only;rw[Tn (by rw[kd e d];exactλh=>h hk)];exact⟨rfl,rfl⟩;obtain⟨c,d⟩:=e.1.vld.1 m;unfold mY;rw[d];simp only;rw[Tp (by rw[kd e d];exact hk)];exact⟨rfl,rfl⟩
 have hb:w=t9 S i g:=hb;subst hb;refine D2 λD K e u=>?_;unfold mY;rw[e.1.none A];exact⟨rfl,rfl⟩
end
end Go.D
namespace Go.D
open Go Go.Xe Go.Sx
def I7 (l:Ah)(c:Nat):Ah:=l.filter (· ≠c)
def S4 (l:Ah)(c:Nat)(a:Int):Ah:=(l.flatMap λ(x:Nat)=>if(x:Int)=a then [c,x]else [x])++if a<0 then [c]else []
def DM.opt (D:DM)(x y:Int):Bb Int:=if x=0/\y=0 then some (-1)else match D.at x y with
 |some a=>some a|none=>none
def DM.kids (D:DM)(p c:Nat)(l:Ah)(par:Int)(k:Nat):DM:=((D.setN p λn=> {n with ch:=l}).setN c λn=> {n with par:=par}).cnt k
open Classical in
def cG (D:DM)(i g j k x y:Int):DM×Int:=match D.at i g,D.at j k,D.opt x y with
 |some p,some c,some a=>if(D.nod p).kind≠1 then(D,1)else if(D.nod c).par≠ -1\/Abv D c p then(D,10)else if 0<=a/\a.toNat∉(D.nod p).ch then(D,1)else(D.kids p c (S4 (D.nod p).ch c a) p 3,0)
 |_,_,_=>(D,11)
def V3 (D:DM)(i g:Int):DM×Int:=match D.at i g with
 |some c=>if(D.nod c).par= -1 then(D,10)else(D.kids (D.nod c).par.toNat c (I7 (D.nod (D.nod c).par.toNat).ch c) (-1) 4,0)
 |none=>(D,11)
def cN (D:DM)(i g x y:Int):DM×Int:=match D.at i g,D.opt x y with
 |some c,some a=>if(D.nod c).par= -1 then(D,10)else if a=c\/(0<=a/\a.toNat∉(D.nod (D.nod c).par.toNat).ch)then(D,1)else(D.kids (D.nod c).par.toNat c (S4 (I7 (D.nod (D.nod c).par.toNat).ch c) c a) (D.nod c).par 5,0)
 |_,_=>(D,11)
def BF :Ar->Prop
 | [.i i,.i g,.i j,.i k,.i x,.i y,.l S,.i fr,.i lv,.i a,.i b,.i c,.i d,.i e,.i f,.i h,.i m,.l _,.l N]=>U32 i/\U32 g/\U32 j/\U32 k/\U32 x/\U32 y/\rD S N fr lv [a,b,c,d,e,f,h,m]|_=>False
def bH :Ar->Ar->Prop
 | [.i i,.i g,.i j,.i k,.i x,.i y,.l S,.i fr,.i lv,.i a,.i b,.i c,.i d,.i e,.i f,.i h,.i m,.l _,.l N],[.i r,.l S',.i fr',.i lv',.i a',.i b',.i c',.i d',.i e',.i f',.i h',.i m',.l _,.l N']=>
  Z5 S N fr lv [a,b,c,d,e,f,h,m] S' N' fr' lv' [a',b',c',d',e',f',h',m'] λD=>((cG D i g j k x y).1,r=(cG D i g j k x y).2)
 |_,_=>False
def vK :Ar->Prop
 | [.i i,.i g,.l S,.i fr,.i lv,.i a,.i b,.i c,.i d,.i e,.i f,.i h,.i m,.l _,.l N]=>U32 i/\U32 g/\rD S N fr lv [a,b,c,d,e,f,h,m]|_=>False
def pK :Ar->Ar->Prop
 | [.i i,.i g,.l S,.i fr,.i lv,.i a,.i b,.i c,.i d,.i e,.i f,.i h,.i m,.l _,.l N],[.i r,.l S',.i fr',.i lv',.i a',.i b',.i c',.i d',.i e',.i f',.i h',.i m',.l _,.l N']=>
  Z5 S N fr lv [a,b,c,d,e,f,h,m] S' N' fr' lv' [a',b',c',d',e',f',h',m'] λD=>((V3 D i g).1,r=(V3 D i g).2)
 |_,_=>False
def Gx :Ar->Prop
 | [.i i,.i g,.i x,.i y,.l S,.i fr,.i lv,.i a,.i b,.i c,.i d,.i e,.i f,.i h,.i m,.l _,.l N]=>U32 i/\U32 g/\U32 x/\U32 y/\rD S N fr lv [a,b,c,d,e,f,h,m]|_=>False
def dO :Ar->Ar->Prop
 | [.i i,.i g,.i x,.i y,.l S,.i fr,.i lv,.i a,.i b,.i c,.i d,.i e,.i f,.i h,.i m,.l _,.l N],[.i r,.l S',.i fr',.i lv',.i a',.i b',.i c',.i d',.i e',.i f',.i h',.i m',.l _,.l N']=>
  Z5 S N fr lv [a,b,c,d,e,f,h,m] S' N' fr' lv' [a',b',c',d',e',f',h',m'] λD=>((cN D i g x y).1,r=(cN D i g x y).2)
 |_,_=>False
def WI:=mkD "ins" [hV,hV,hV] BF [iV] bH
def LE:=mkD "rem" [hV] vK [iV] pK
def WG:=mkD "mov" [hV,hV] Gx [iV] dO
def yO :Ay->List (Nat×(Fm->SS->F9)):=W3
def Hn :Nat->List (Ay×Con)
 |_=>[(LVn,cq "lives")]
def Cb :Nat->Aw->D4
 |_,P=>(159,sdel P U0 tHd 2)::(73,wkM U0 (sins P U0 tHd 2))::V8 0 P
