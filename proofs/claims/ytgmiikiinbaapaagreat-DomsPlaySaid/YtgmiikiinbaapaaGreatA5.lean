/- Trees: the conditions of walk and of Check hold.
  Conditions: none. -/
import Derived.Test.YtgmiikiinbaapaaGreatA3
set_option linter.all false
namespace Go.D
open Go Go.Xe Go.Sx
def J3 (s:c9):jT s↔V3 s/\AllAs s.c:=by cases s;unfold jT;rfl
def tY (s:c9):s.size=c9.sizes s.c+1:=by cases s;rfl
def wH (s:c9):s.depth=c9.depths s.c+1:=by cases s;rfl
def mL (l m:List c9):AllAs (l++m)↔AllAs l/\AllAs m:=by
 induction l with
 |nil=>simp[AllAs]|cons a l b=>simp[AllAs,b,and_assoc]
def gE (l m:List c9):c9.sizes (l++m)=c9.sizes l+c9.sizes m:=by
 induction l with
 |nil=>simp[c9.sizes]|cons a l b=>simp only[c9.sizes,PO,b];omega
def iL (l m:List c9):c9.depths (l++m)=max (c9.depths l) (c9.depths m):=by
 induction l with
 |nil=>simp[c9.depths]|cons a l b=>simp only[c9.depths,PO,b];omega
def Dc (l:List c9)(k:Nat):c9.sizes (l.take k)<=c9.sizes l:=by rw(occs:= .pos [2]) [<-Qu k l];rw[gE];omega
def wI (l:List c9)(k:Nat):c9.depths (l.take k)<=c9.depths l:=by rw(occs:= .pos [2]) [<-Qu k l];rw[iL];omega
variable {l:List c9}
def DU (h:AllAs l)(k:Nat):AllAs (l.take k):=by rw[<-Qu k l,mL]at h;exact h.1
theorem fO (h:AllAs l){k:Nat}{a:c9}(c:l[k]? =some a):jT a:=by
 induction l generalizing k with
 |nil=>grind|cons b l d=>cases k with
  |zero=>cases c;exact h.1
  |succ k=>exact d h.2 (by simpa using c)
def KL (s:c9):1<=s.size:=by rw[tY];omega
theorem kC {s:c9}(h:V3 s):s.c.length<=16/\s.a.length<=8:=by rcases h<;>grind
def bad {p q:Prop}(h:¬p):(false=true↔p)/\(false=true->q):=⟨D2 h,fun e=>(by cases e)⟩
def Kg (c:c9):c9.sizes [c]=c.size:=by simp[c9.sizes]
def Nn (c:c9):c9.depths [c]=c.depth:=by simp[c9.depths]
def vcWalk_ok (n:Nat):vcWalk n:=by
 rintro _ lv t A ⟨⟨⟨s,rfl⟩,h1,h2,h3,h4,E,f⟩,hm⟩;simp only[fJ]at hm;simp only[Nd,ln,I64,cL,Je,part1,t5,aY,OV,y8,dT,G4,cR,fJ,fK,yD,PZ,Qc,PY,tH,forall_eq',exists_eq',PP,Px];refine⟨⟨by omega,by omega⟩,fun _=>⟨fun j=>?_,fun j=>?_⟩⟩;all_goals
  have p:=tY s;have o:=wH s;refine⟨fun h=>⟨by omega,by omega,by omega,by omega,bad fun g=>?_⟩,fun f=>⟨fun h=>⟨by omega,by omega,by omega,by omega,bad fun g=>?_⟩,fun i b hb=>⟨fun e=>⟨⟨by omega,by omega,by omega,by omega,trivial,by simp[c9.sizes],by omega,by simp only[Int.toNat_zero,List.take_zero,c9.depths];omega,by omega,by simp only[Int.toNat_zero,List.take_zero,c9.depths];omega,by omega⟩,fun _ k n' z ⟨k0,_,_,k1,k2,k3,F,q,G,r,_⟩=>⟨fun hk=>?_,fun hk=>?_⟩⟩,fun e=>⟨by omega,by omega,by omega,by omega,bad fun g=>e (hb.2 ((J3 s).1 g.1).1)⟩⟩⟩⟩
  ·have:=g.2.1;omega
  ·have:=g.2.2;omega
  ·obtain⟨c,hc⟩:=Sx.get_at k0 hk;have:=kC (hb.1 e);have hs1:=Dc s.c (k+1).toNat;have hd1:=wI s.c (k+1).toNat;simp only[Ki hc,PZ,Qc,tH,forall_eq',exists_eq',PY];simp only[m9 k0 hc,gE,Kg,iL,Nn]at hs1 hd1⊢;refine⟨by omega,fun _=>⟨hk,fun _=>⟨⟨by omega,by omega⟩,fun _=>⟨⟨⟨by omega,by omega,by omega,by omega,by omega,by omega⟩,by omega⟩,fun _ b' m B ⟨u,v,w,x,a,y⟩=>⟨fun e'=>?_,fun e'=>?_⟩⟩⟩⟩⟩
   ·obtain⟨d,C,D⟩:=a.1 e';obtain⟨H,I⟩:=y e';exact⟨⟨by omega,by omega⟩,fun _=>⟨⟨by omega,by omega,by omega,by omega,(mL _ _).2 ⟨k2,d,trivial⟩,by omega,by omega,by omega,by omega,by omega,by omega⟩,fun _=>by omega⟩⟩
   ·refine⟨u,v,w,x,bad fun g=>e' (a.2 ⟨fO ((J3 s).1 g.1).2 hc,?_,?_⟩)⟩
    ·have:=g.2.1;omega
    ·have:=g.2.2;omega
  ·rw[A4 (by omega)]at k2 k3 q r;have g:Good s lv t:=⟨(J3 s).2 ⟨hb.1 e,k2⟩,by omega,by omega⟩
   exact⟨by omega,by omega,by omega,by omega,⟨fun _=>g,fun _=>trivial⟩,by omega,by omega⟩
def no14 {p:Prop}(h:¬p):((14:Int)=0↔p):=⟨fun e=>absurd e (by decide),fun e=>absurd e h⟩
def vcChk_ok :vcChk:=by
 rintro _ _ _ _ _ _ ⟨s,rfl,rfl,rfl,rfl,rfl,rfl⟩;have e:pQ (b8 6 1 [(.int s.k),(.str s.t),(.str s.y),(.lst (s.a.map Att.row)),(.str s.x),(.lst (rows s.c))]) 0 1=[s.row]:=by rw[R9];rfl
 simp only[Nd,e,cR,G4,Q9,G7,PZ,Qc,tH,forall_eq',forall_eq,exists_eq',PY,PP];refine⟨by omega,fun _ b n d ⟨h1,h2,h3,h4,f,i⟩=>⟨fun e=>?_,fun e=>⟨no14 fun h=>absurd (f.2 ⟨h.1,by have:=h.2.2;omega,by have:=h.2.1;omega⟩) e,.inr trivial⟩⟩⟩;obtain⟨g,j,m⟩:=f.1 e;have:=(i e).1;have:=KL s;exact⟨fun h=>by omega,fun _=>⟨⟨fun _=>⟨g,by omega,by omega⟩,fun _=>trivial⟩,.inl trivial⟩⟩
open Go Go.Xe Go.Sx
theorem set6 {L:Sx.Rows}{i:Int}{a b c d e f:Dat}(h0:0<=i)(h:i<(L.length:Int))(hr:∀r∈L,r.length=6):a8 (a8 (a8 (a8 (a8 (a8 L i 0 a) i 1 b) i 2 c) i 3 d) i 4 e) i 5 f=L.set i.toNat [a,b,c,d,e,f]:=by
 obtain⟨r,hg⟩:=Sx.get_at h0 h;have g:=hr r (ON hg)
 match r,g with
 | [_,_,_,_,_,_],_=>
  refine List.ext_getElem? fun j=>?_;simp only[a8,List.getElem?_modify,List.getElem?_set];by_cases e:i.toNat=j
  ·subst e;simp[hg];omega
  ·grind
def Lj {α:Type}{L:List α}{i:Int}{a:α}(h0:0<=i)(h:i<(L.length:Int)):(L.set i.toNat a).take (i+1).toNat=L.take i.toNat++ [a]:=by rw[m9 h0 (by rw[List.getElem?_set_self (by omega)]),List.take_set_of_le (OZ _)]
def FH (b:Bool)(l m:List c9):strips b (l++m)=strips b l++strips b m:=by
 induction l with
 |nil=>simp[strips]|cons a l c=>simp[strips,c]
def Ml (c:c9):c.row.length=6:=by rw[R9];rfl
theorem uI :∀ {l:List c9} {k:Nat} {c:c9},l[k]? =some c->szRs (rows c.c)<szRs (rows l)
 | [],k,c,h=>by grind|a::l,0,c,h=>by cases h;show _<szR a.row+1+szRs (rows l);rw[R9];simp only[szR,szD];omega
 |a::l,k+1,c,h=>by have:=uI (by simpa using h);show _<szR a.row+1+szRs (rows l);omega
def zE {s:c9}{k:Int}{t y x:Str}{a c:Sx.Rows}(h:isT s k t y a x c): [Dat.int k,.str t,.str y,.lst a,.str x,.lst c]=s.row:=by obtain⟨rfl,rfl,rfl,rfl,rfl,rfl⟩:=h;exact(R9 s).symm
theorem Jf (n:Nat)(s:c9)(b:Bool)(f:jT s)(hn:szRs (rows s.c)<n+1)(k:Int)(D:Sx.Rows)(hi:J4 [.lst (rows s.c),.bool b] [.int k,.lst D])(hk:k<((rows s.c).length:Int)):vcCpd0 n k (rows s.c) b D:=by
 obtain⟨k0,k1,k2,k3⟩:=hi;obtain⟨k3,l⟩:=k3 s.c rfl;rw[OV]at k1 k2 hk;obtain⟨c,hc⟩:=Sx.get_at k0 hk;have f:=(J3 s).1 f;have i:=(kC f.1).1;have g:=fO f.2 hc;have d:=uI hc;have d:szRs (rows c.c)<n:=by omega
 simp only[vcCpd0,Nd,Nr,Ni,ln,I64,cI,cS,cL,N6 hc,t0,t1,t2,t3,t4,t5,gJ,C2,aY,OV,rF,wD,V7,Jg,A5,G7,forall_eq,exists_eq_left,PY,Px,PP,Qc,k2];refine⟨by omega,fun _=>⟨hk,fun _=>⟨⟨g,d⟩,fun _ k' t y a x c' j=>⟨by omega,fun _=>⟨by omega,fun _=>⟨Int.lt_irrefl _,fun _=>⟨by omega,fun _=>⟨⟨by omega,by omega⟩,fun _=>⟨by omega,fun _=>⟨by omega,fun _=>⟨?_,fun _=>by omega⟩⟩⟩⟩⟩⟩⟩⟩⟩⟩⟩;rw[set6 k0 (by omega) l,zE j];refine⟨by omega,by grind,by grind,fun m e=>?_⟩;rw[<-AD.mp e,Lj k0 (by omega),m9 k0 hc,FH,k3];refine⟨by simp[rows,strips],fun r hr=>?_⟩;rcases List.mem_or_eq_of_mem_set hr with h|rfl
 ·grind
 ·exact Ml _
theorem vcCpd_ok (n:Nat):vcCpd n:=by
 rintro _ _ _ _ _ _ b ⟨⟨s,⟨rfl,rfl,rfl,rfl,rfl,rfl⟩,g⟩,hn⟩;have B:=Jf n s b g hn;have f:=(J3 s).1 g;obtain⟨o,q⟩:=kC f.1;have S:J4 [.lst (rows s.c),.bool b] [.int 0,.lst (pQ (List.replicate ((ln (rows s.c))).toNat [(.int (0)),(.str ([]:Ae)),(.str ([]:Ae)),(.lst ([]:Sx.Rows)),(.str ([]:Ae)),(.lst ([]:Sx.Rows))]:Sx.Rows) 0 (ln (rows s.c)))]:=by refine⟨by omega,by omega,by simp[pQ],fun c e=>⟨by simp[strips],fun r hr=>?_⟩⟩;rw[(List.mem_replicate.1 (Qn hr)).2];rfl
 have F:∀k D d,J4 [.lst (rows s.c),.bool b] [.int k,.lst D]-> ¬k<ln (rows s.c)->d=s.a.map Att.row->V7 [.int s.k,.str s.t,.str s.y,.lst (s.a.map Att.row),.str s.x,.lst (rows s.c),.bool b] [.int s.k,.str s.t,.str (if b then s.y else []),.lst d,.str s.x,.lst D]:=by intro k D d ⟨k0,k1,k2,k3⟩ hk e;obtain⟨k3,_⟩:=k3 s.c rfl;unfold ln at hk;rw[A4 (by omega),A4 (by grind)]at k3;intro s' h;rw[G7]at h;subst h;subst e;subst k3;cases s';exact⟨rfl,rfl,rfl,rfl,rfl,rfl⟩
 have i:b8 2 0 []++s.a.map Att.row=s.a.map Att.row:=rfl;have j:pQ (Sx.over (b8 2 0 []) 0 (s.a.map Att.row)) 0 (ln (s.a.map Att.row))=s.a.map Att.row:=by simp[pQ,Sx.over,b8,ln,<-List.map_take]
 have l:ln (Sx.over (b8 2 0 []) 0 (s.a.map Att.row))=ln (s.a.map Att.row):=by simp[Sx.over,b8,ln]
 have m:ln (s.a.map Att.row)=0->([]:Sx.Rows)=s.a.map Att.row:=fun h=>by
  have:s.a=[]:=by simpa [ln]using h
  rw[this];rfl
 have u:ln (rows s.c)<=16:=by simp[ln];omega
 have v:ln (s.a.map Att.row)<=8:=by simp[ln];omega
 have w:0<=ln (rows s.c):=by simp[ln]
 have z:0<=ln (s.a.map Att.row):=by simp[ln]
 have p:ln (List.replicate (ln (rows s.c)).toNat [(.int (0)),(.str ([]:Ae)),(.str ([]:Ae)),(.lst ([]:Sx.Rows)),(.str ([]:Ae)),(.lst ([]:Sx.Rows))]:Sx.Rows)=ln (rows s.c):=by simp[ln]
 simp only[i,j,l,p];cases b;all_goals
  simp only[Qb,if_false,Qs]at F;simp only[Nd,Nr,Ni,false_implies,Px,PY,not_false_eq_true,Qb,not_true_eq_false,Qc]
  repeat' with_reducible first|exact trivial|exact S|exact B _ _ ‹_› ‹_› |exact F _ _ _ ‹_› ‹_› rfl|exact F _ _ _ ‹_› ‹_› (m ‹_›)|omega| (refine Pf ?_ ?_)|intro _
end Go.D
