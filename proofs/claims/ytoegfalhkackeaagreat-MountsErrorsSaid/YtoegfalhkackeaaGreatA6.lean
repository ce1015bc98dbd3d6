/- Trees: the condition of copied holds.
  Conditions: none. -/
import Derived.Test.YtoegfalhkackeaaGreatA4
import Derived.Test.YtoegfalhkackeaaGreatB2
set_option maxRecDepth 100000
set_option linter.all false
noncomputable section
namespace Go.D
open Go Go.Xe Go.Sx
theorem set6 {L:Sx.Rows}{i:Int}{a b c d e f:Dat}(h0:0<=i)(h:i<(L.length:Int))(hr:∀r∈L,r.length=6):i7 (i7 (i7 (i7 (i7 (i7 L i 0 a) i 1 b) i 2 c) i 3 d) i 4 e) i 5 f=L.set i.toNat [a,b,c,d,e,f]:=by
 obtain⟨r,hg⟩:=Sx.get_at h0 h;have g:=hr r (QT hg)
 match r,g with
 | [_,_,_,_,_,_],_=>refine List.ext_getElem? fun j=>?_;simp only[i7,List.getElem?_modify,List.getElem?_set];by_cases e:i.toNat=j;subst e;simp[hg];omega;grind
def Mz {α:Type}{L:List α}{i:Int}{a:α}(h0:0<=i)(h:i<(L.length:Int)):(L.set i.toNat a).take (i+1).toNat=L.take i.toNat++ [a]:=by rw[B3 h0 (by rw[List.getElem?_set_self (by omega)]),List.take_set_of_le (Ri _)]
def Gn (b:Bool)(l m:List a9):strips b (l++m)=strips b l++strips b m:=by
 induction l with
 |nil=>simp[strips]|cons a l c=>simp[strips,c]
def NR (c:a9):c.row.length=6:=by rw[O2];rfl
theorem nA :∀ {l:List a9} {k:Nat} {c:a9},l[k]? =some c->szRs (rows c.c)<szRs (rows l)
 | [],k,c,h=>by grind|a::l,0,c,h=>by cases h;show _<szR a.row+1+szRs (rows l);rw[O2];simp only[szR,szD];omega
 |a::l,k+1,c,h=>by have:=nA (by simpa using h);show _<szR a.row+1+szRs (rows l);omega
def Hf {s:a9}{k:Int}{t y x:Str}{a c:Sx.Rows}(h:isT s k t y a x c): [Dat.int k,.str t,.str y,.lst a,.str x,.lst c]=s.row:=by obtain⟨rfl,rfl,rfl,rfl,rfl,rfl⟩:=h;exact(O2 s).symm
theorem Kx (n:Nat)(s:a9)(b:Bool)(f:U7 s)(hn:szRs (rows s.c)<n+1)(k:Int)(D:Sx.Rows)(hi:K1 [.lst (rows s.c),.bool b] [.int k,.lst D])(hk:k<((rows s.c).length:Int)):vcCpd0 n k (rows s.c) b D:=by
 obtain⟨k0,k1,k2,k3⟩:=hi;obtain⟨k3,l⟩:=k3 s.c rfl;rw[Rc]at k1 k2 hk;obtain⟨c,hc⟩:=Sx.get_at k0 hk;have f:=(H2 s).1 f;have i:=(hM f.1).1;have g:=bU f.2 hc;have d:=nA hc;have d:szRs (rows c.c)<n:=by omega
 simp only[vcCpd0,Nd,Nr,Ni,ln,I64,cI,cS,cL,L2 hc,t0,t1,t2,t3,t4,t5,Z4,C5,V2,Rc,oH,wY,V6,Ky,N0,y6,forall_eq,exists_eq_left,Si,RD,Sc,Sq,k2];refine⟨by omega,fun _=>⟨hk,fun _=>⟨⟨g,d⟩,fun _ k' t y a x c' j=>⟨by omega,fun _=>⟨by omega,fun _=>⟨Int.lt_irrefl _,fun _=>⟨by omega,fun _=>⟨⟨by omega,by omega⟩,fun _=>⟨by omega,fun _=>⟨by omega,fun _=>⟨?_,fun _=>by omega⟩⟩⟩⟩⟩⟩⟩⟩⟩⟩⟩;rw[set6 k0 (by omega) l,Hf j];refine⟨by omega,by grind,by grind,fun m e=>?_⟩;rw[<-iJ.mp e,Mz k0 (by omega),B3 k0 hc,Gn,k3];refine⟨by simp[rows,strips],fun r hr=>?_⟩;rcases List.mem_or_eq_of_mem_set hr with h|rfl;grind;exact NR _
theorem vcCpd_ok (n:Nat):vcCpd n:=by
 rintro _ _ _ _ _ _ b ⟨⟨s,⟨rfl,rfl,rfl,rfl,rfl,rfl⟩,g⟩,hn⟩;have B:=Kx n s b g hn;have f:=(H2 s).1 g;obtain⟨o,q⟩:=hM f.1;have S:K1 [.lst (rows s.c),.bool b] [.int 0,.lst (pQ (List.replicate ((ln (rows s.c))).toNat [(.int (0)),(.str ([]:Ae)),(.str ([]:Ae)),(.lst ([]:Sx.Rows)),(.str ([]:Ae)),(.lst ([]:Sx.Rows))]:Sx.Rows) 0 (ln (rows s.c)))]:=by refine⟨by omega,by omega,by simp[pQ],fun c e=>⟨by simp[strips],fun r hr=>?_⟩⟩;rw[(List.mem_replicate.1 (SH hr)).2];rfl
 have F:∀k D d,K1 [.lst (rows s.c),.bool b] [.int k,.lst D]-> ¬k<ln (rows s.c)->d=s.a.map Att.row->V6 [.int s.k,.str s.t,.str s.y,.lst (s.a.map Att.row),.str s.x,.lst (rows s.c),.bool b] [.int s.k,.str s.t,.str (if b then s.y else []),.lst d,.str s.x,.lst D]:=by intro k D d ⟨k0,k1,k2,k3⟩ hk e;obtain⟨k3,_⟩:=k3 s.c rfl;unfold ln at hk;rw[F7 (by omega),F7 (by grind)]at k3;intro s' h;rw[y6]at h;subst h;subst e;subst k3;cases s';exact⟨rfl,rfl,rfl,rfl,rfl,rfl⟩
 have i:d8 2 0 []++s.a.map Att.row=s.a.map Att.row:=rfl;have j:pQ (Sx.over (d8 2 0 []) 0 (s.a.map Att.row)) 0 (ln (s.a.map Att.row))=s.a.map Att.row:=by simp[pQ,Sx.over,d8,ln,<-List.map_take]
 have l:ln (Sx.over (d8 2 0 []) 0 (s.a.map Att.row))=ln (s.a.map Att.row):=by simp[Sx.over,d8,ln]
 have m:ln (s.a.map Att.row)=0->([]:Sx.Rows)=s.a.map Att.row:=fun h=>by
  have:s.a=[]:=by simpa [ln]using h
  rw[this];rfl
 have u:ln (rows s.c)<=16:=by simp[ln];omega
 have v:ln (s.a.map Att.row)<=8:=by simp[ln];omega
 have w:0<=ln (rows s.c):=by simp[ln]
 have z:0<=ln (s.a.map Att.row):=by simp[ln]
 have p:ln (List.replicate (ln (rows s.c)).toNat [(.int (0)),(.str ([]:Ae)),(.str ([]:Ae)),(.lst ([]:Sx.Rows)),(.str ([]:Ae)),(.lst ([]:Sx.Rows))]:Sx.Rows)=ln (rows s.c):=by simp[ln]
 simp only[i,j,l,p];cases b;all_goals
  simp only[Sp,if_false,if_true]at F;simp only[Nd,Nr,Ni,false_implies,RD,Si,not_false_eq_true,Sp,not_true_eq_false,Sq]
  repeat' with_reducible first|exact trivial|exact S|exact B _ _ ‹_› ‹_› |exact F _ _ _ ‹_› ‹_› rfl|exact F _ _ _ ‹_› ‹_› (m ‹_›)|omega| (refine Ro ?_ ?_)|intro _
def DM.nod (D:DM)(c:Nat):Nod:=match D.L[c]? with
 |some s=>s.n|none=>⟨0,[],[],[],0,0,false, -1,[]⟩
def DM.setN (D:DM)(c:Nat)(q:Nod->Nod):DM:= {D with L:=D.L.modify c fun s=> {s with n:=q s.n}}
def DM.cnt (D:DM)(k:Nat):DM:= {D with C:=D.C.modify k (· +1)}
def Pi (D:DM)(i g:Int)(t:Str):DM×Int:=match D.at i g with
 |none=>(D,11)
 |some c=>if(D.nod c).kind≠2\/N9 t=false then(D,1)else((D.setN c fun n=> {n with text:=t}).cnt 6,0)
def RlC (D:DM)(S N:Sx.Rows)(fr lv:Int)(cs:Ak):Prop:=Rl D.gen D S N fr lv/\cs=D.C
def Fr (S N S' N':Sx.Rows):Prop:=N.length<=N'.length/\(∀k:Nat,k<N.length->(∀j:Nat,j<S.length->cB S j 1=true->cI S j 3≠k)->N'[k]? =N[k]?)/\
 ∀i:Nat,i<S'.length->cB S' i 1=true->(∃j:Nat,j<S.length/\cB S j 1=true/\cI S j 3=cI S' i 3)\/(N.length:Int)<=cI S' i 3
def Dc (S N:Sx.Rows)(fr lv:Int)(cs:Ak):Prop:=∃D K,RlC D S N fr lv cs/\WF D K
def mR (S N:Sx.Rows)(fr lv:Int)(cs:Ak)(S' N':Sx.Rows)(fr' lv':Int)(cs':Ak)(f:DM->DM×Prop):Prop:=
 Fr S N S' N'/\ ∀D K,RlC D S N fr lv cs->WF D K->RlC (f D).1 S' N' fr' lv' cs'/\(f D).2
def Qm :Nat->List (Ay×Con)
 |_=>[(42,cChk),(LVn,cYes "lives")]
def bN :Nat->Aw->I9
 |_,P=>[(68,kro P U0 cAt),(97,kro P U0 cVld),(71,kro P U0 cPlc),(69,kro P U0 cAbo)]
open Go Go.Xe Go.Sx
