/- The conditions of contracts, as the engine's printer has written them, and that the kernel comes to the same.
  Conditions: none. -/
import Derived.Test.YtoegfalhkackeaaGreatN5
set_option maxRecDepth 100000
set_option linter.all false
noncomputable section
namespace Go.D
open Go Go.Xe Go.Sx
def vcHa2 :Prop:=
 ∀c d a f g h i j k l m o p q r,AT (.int c::.int d::JD a f g h i j k l m o p q r)->Ni (ln a) (Nr (ln a)<|Nd (pI (.int c::.int d::JD a f g h i j k l m o p q r))<|∀t u v w x y z A B C s,Q5 (.int c::.int d::JD a f g h i j k l m o p q r) [.int t,.str u,.lst v,.str w,.int x,.int y,.bool z,.int A,.int B,.lst C,.int s]->((s=0->Ni (ln a) (Nr (ln a)<|Nd (FD (.int c::.int d::JD a f g h i j k l m o p q r))<|∀b,LR (.int c::.int d::JD a f g h i j k l m o p q r) [.lst b]->Nd (¬ln b<0) (Ni (ln b)<|Ni (ln b)<|Nd (0<ln b)<|Nr (ln b)<|Nr (ln b)<|Nd (tO (.int c::.int d::JD a f g h i j k l m o p q r) [.lst b,.int 0]) True)))/\(¬s=0->Nd (tO (.int c::.int d::JD a f g h i j k l m o p q r) [.lst [],.int s]) True)))
def vcHa2_eq :kr Go.Proofs.Tryz.prog cHa2 Lt (PQ 0) (Im 0) 13=vcHa2:=by kernel_rfl
def rowI (j:Nat):Ar:=[.int j]
def Sl.row (s:Sl):Ar:=if s.used then [.int s.g,.bool true,.int s.n.kind,.str s.n.tag,.lst (s.n.atts.map Att.row),.str s.n.text,.int s.n.top,.int s.n.size,.bool s.n.pin,.int s.n.par,.lst (s.n.ch.map rowI)]else [.int s.g,.bool false,.int 0,.str [],.lst [],.str [],.int 0,.int 0,.bool false,.int 0,.lst []]
def Rf (D:DM)(L F:Sx.Rows)(cs:Ak):Prop:=L=D.L.map Sl.row/\F=D.free.map rowI/\cs=D.C
def rfPre (L F:Sx.Rows)(cs:Ak):Prop:=∃D K,Rf D L F cs/\WF D K
def g8 :List G:=[.int .i64,.int .i64,.int .i64,.int .i64,.int .i64,.int .i64,.int .i64,.int .i64]
def HOK (H:Sx.Rows):Prop:=∀r∈H,∃i g:Int,r=[.int i,.int g]/\U32 i/\U32 g
def BI (K:Nat)(L F:Sx.Rows)(bs:Ak)(H S:Sx.Rows)(fr lv:Int)(cs:Ak)(N:Sx.Rows):Prop:=∃D,Rf D L F bs/\RlC D S N fr lv cs/\WF D K/\HOK H/\H.length<=K
def vcFre0 (a:Sx.Rows)(p q b c d f g h i j k l:Int)(m o:Sx.Rows):Prop:=
 Nq (ln a)<|Nd (lD (.int p::.int q::JD a b c d f g h i j k l m o) (.int 10::JD a b c d f g h i j k l m o)) True
def vcFre :Prop:=
 ∀p q a c d f g h i j k l m o b,tK (.int p::.int q::JD a c d f g h i j k l m o b)->Nq (ln a) (Cg V9 M5 (.int p::.int q::JE a c d f g h i j k l m o) fun R=>∀t,R [.bool t]->((t=true->Nq (ln a) (Cg H8 G2 (.int p::.int q::JE a c d f g h i j k l m o) fun R=>∀r,R [.int r]->Nb r (ln b) ((cI b r 7=0->((cI b r 8=0->Nq (ln a) (Cg tI tJ (.int p::.int q::.lst a::J10 c d f g h i j k l m [.lst o,.lst b,.lst [],.lst []]) fun R=>∀u x y v z w A B C D F G H s I,R (.lst u::J10 x y v z w A B C D F [.lst G,.lst H,.lst s,.lst I])->Nd (I64 (v-ln s)) (Nd (I64 (w+ln s))<|Nq (ln u)<|Nd (lD (.int p::.int q::JD a c d f g h i j k l m o b) (.int 0::JD u x y (v-ln s) z (w+ln s) A B C D F G H)) True)))/\(¬cI b r 8=0->vcFre0 a p q c d f g h i j k l m o b)))/\(¬cI b r 7=0->vcFre0 a p q c d f g h i j k l m o b))))/\(¬t=true->Nq (ln a) (Nd (lD (.int p::.int q::JD a c d f g h i j k l m o b) (.int 11::JD a c d f g h i j k l m o b)) True))))
def vcFre_eq :kq Go.Proofs.Tryz.prog cFre Qr (Od 0) (Sq 0) 46=vcFre:=by kernel_rfl
def PE {G G':Nat->Nat}{n:Nod}(h1:n.par= -1\/ ∃p:Nat,n.par=p/\G p=G' p)(h2:∀j∈n.ch,G j=G' j):n.rn G=n.rn G':=by
 unfold Nod.rn;have e1:hG' G n.par=hG' G' n.par:=by unfold hG';rcases h1 with e| ⟨p,e,h⟩;rw[e];rfl;rw[e,TH (by omega),TH (by omega),Uc,h]
 have e2:n.ch.map (z9 G)=n.ch.map (z9 G'):=List.map_congr_left fun j hj=>by unfold z9;rw[h2 j hj]
 rw[e1,e2]
section
variable {D :DM}{S N S' N':Sx.Rows}{fr lv fr' lv' i g:Int}{K c:Nat}{s:Sl}
def RlX.done (h:RlX D (bel D 1001 c) S N fr lv)(w:WF D K)(hs:D.L[c]? =some s)(l:s.used=true)(hp:s.n.par= -1){C:Ak}:Rl ((bel D 1001 c).foldl C0 D).gen {(bel D 1001 c).foldl C0 D with C:=C} S N fr lv:=by
 obtain⟨T,M,rfl,rfl,h⟩:=h;have k:RlT ((bel D 1001 c).foldl C0 D).gen ((bel D 1001 c).foldl C0 D) T M fr lv:=h.regen fun j sj hj d=>by
  have hn:=M8 (f:=1001) w hs l;have a:∀ {q:Nat},q∉bel D 1001 c->D.gen q=((bel D 1001 c).foldl C0 D).gen q:=fun m=>by unfold DM.gen;rw[I0 m]
  by_cases m:j∈bel D 1001 c;obtain⟨_,s',h1,_⟩:=R9 w hs l j m;rw[iW hn m h1]at hj;cases hj;cases d;rw[I0 m]at hj;obtain⟨k1,k2⟩:=xZ w hs l hp hj d m;refine PE ?_ fun b hb=>a (k2 b hb);rcases w.par j sj hj d with e| ⟨q,r,e,o,p,t⟩;exact .inl e;exact .inr ⟨q,e,a (k1 q r e o p)⟩
 exact⟨T,M,rfl,rfl,k.len,k.row,k.inj,k.free,k.nodup,k.all,k.lv⟩
def vcFre_ok :vcFre:=by
 unfold vcFre;intro i g S fr lv c0 v w c3 x y z A st N h;obtain⟨hi,hg,hp⟩:=h;have hp':=hp;obtain⟨D,K,⟨k,hc⟩,j⟩:=hp;have o:=k.slen j;refine kH ⟨hi,hg,o⟩ ⟨fun hv=>?_,fun hv=>nin (nrn (ndt (N9 fun D K m j=>?_)))⟩
 ·have facts:∀ {D K},RlC D S N fr lv [c0,v,w,c3,x,y,z,A]->WF D K-> ∃c s,D.at i g=some c/\D.L[c]? =some s/\s.used=true/\0<=atF S i g/\atF S i g<N.length/\((cI N (atF S i g) 7=0/\cI N (atF S i g) 8=0)↔s.n.par= -1)/\pE D i g=if s.n.par≠ -1 then(D,10)else({(bel D 1001 c).foldl C0 D with C:=(D.C.modify 0 (· -(bel D 1001 c).length)).modify 2 (· +(bel D 1001 c).length)},0):=fun{D K} m j=>by obtain⟨c,hc⟩:=m.1.vld.1 hv;obtain⟨s,h1,h2,h3,h4,h5,X,Y,h8,Z,J,W⟩:=m.1.flds hc;refine⟨c,s,hc,h1,h2,X,Y,?_,?_⟩;rw[Z,J];exact j.hI_zero h1 h2;unfold pE;rw[hc];simp only;rw[h3]
  obtain⟨c,s,q,F,G,H,I,r,t⟩:=facts ⟨k,hc⟩ j;have bad:¬(cI N (atF S i g) 7=0/\cI N (atF S i g) 8=0)->vcFre0 S i g fr lv c0 v w c3 x y z A st N:=fun hb=>by unfold vcFre0;refine nin (nrn (ndt (N9 fun D K m j=>?_)));obtain⟨c,s,q,F,G,H,I,r,t⟩:=facts m j;rw[t,TJ fun h=>hb (r.2 h)];exact⟨rfl,rfl⟩
  refine aV ⟨hi,hg,o⟩ (P3 H I ⟨fun B=>⟨fun E=>?_,fun E=>bad fun h=>E h.2⟩,fun B=>bad fun h=>B h.1⟩);have hx:∀ {D},RlC D S N fr lv [c0,v,w,c3,x,y,z,A]->RlX D [] S N fr lv:=fun h=>h.1;have us:=k.uses;have lS:aX S<=1000:=by have:aX S<=S.length:=List.countP_le_length;omega
  refine nin (nrn (ndi ⟨hi,hg,by show 0+aX S<=1000;omega,rfl,D,[],K,c,k,j,q,fun _ _=>by simp⟩ fun S' fr' lv' b0 Q u R T b5 U V aa N' Q' W' hr=>?_));obtain⟨M,rfl,_,hF,m⟩:=hr;simp only[UD,UG]at M;obtain⟨rfl,rfl,rfl,rfl,rfl,rfl,rfl,rfl⟩:=M;have res:∀ {D K},RlC D S N' fr lv [b0,Q,u,R,T,b5,U,V]->WF D K-> ∃c s,D.L[c]? =some s/\s.used=true/\s.n.par= -1/\RlX D (bel D 1001 c) S' N' fr' lv'/\Q'.length=(bel D 1001 c).length/\pE D i g=({(bel D 1001 c).foldl C0 D with C:=(D.C.modify 0 (· -(bel D 1001 c).length)).modify 2 (· +(bel D 1001 c).length)},0):=fun{D K} k j=>by
   obtain⟨c,s,q,F,G,H,I,r,t⟩:=facts k j;obtain⟨q1,q2⟩:=m D [] K c (hx k) j q fun _ _=>by simp
   have hp:=r.1 ⟨B,E⟩;exact⟨c,s,F,G,hp,by simpa using q1,by simpa using q2,by rw[t,TH (by simp[hp])]⟩
  obtain⟨c,s,k1,k2,k3,k4,O,P⟩:=res ⟨k,hc⟩ j;have bl:(bel D 1001 c).length<=1000:=by have:=eD (M8 (f:=1001) j k1 k2) fun b hb=>(R9 j k1 k2 b hb).2;have:=List.countP_le_length (p:=fun s:Sl=>s.used) (l:=D.L);have:=j.lim;omega
  have cb:0<=b0/\b0<=1000/\0<=u/\u<=1000:=by obtain⟨a,b,c,d,e,f,h',h1,_,h3,h4⟩:=j.cnt;have:=j.lim;have:=List.countP_le_length (p:=fun s:Sl=>s.used) (l:=D.L);rw[<-hc]at h1;simp only[UD,UG]at h1;simp only[List.forall_mem_cons]at h4;omega
  have lQ:ln Q'=((bel D 1001 c).length:Int):=by simp only[ln];omega
  refine ndi (by unfold I64;omega) (ndi (by unfold I64;omega) (nin (nrn (ndt ⟨hF,fun D K k j=>?_⟩))));obtain⟨c,s,k1,k2,k3,k4,O,P⟩:=res k j;show RlC (pE D i g).1 S' N' fr' lv' _/\(0:Int)=(pE D i g).2;rw[P];refine⟨⟨k4.done j k1 k2 k3,?_⟩,rfl⟩;rw[<-k.2,<-O];rfl
 unfold pE;rw[m.1.none hv];exact⟨rfl,rfl⟩
