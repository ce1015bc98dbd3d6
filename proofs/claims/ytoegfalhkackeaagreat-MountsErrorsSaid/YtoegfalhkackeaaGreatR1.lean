/- The reference's DOM: what it is for a DOM of the model; contracts of At, Copy, place, put, without, Find, insert.
  Conditions: none. -/
import Derived.Test.YtoegfalhkackeaaGreatW1
set_option maxRecDepth 100000
set_option linter.all false
noncomputable section
namespace Go.D
open Go Go.Xe Go.Sx
def rowI (j:Nat):Ar:=[.int j]
def Sl.row (s:Sl):Ar:=if s.used then [.int s.g,.bool true,.int s.n.kind,.str s.n.tag,.lst (s.n.atts.map Att.row),.str s.n.text,.int s.n.top,.int s.n.size,.bool s.n.pin,.int s.n.par,.lst (s.n.ch.map rowI)]else [.int s.g,.bool false,.int 0,.str [],.lst [],.str [],.int 0,.int 0,.bool false,.int 0,.lst []]
def Rf (D:DM)(L F:Sx.Rows)(cs:Ak):Prop:=L=D.L.map Sl.row/\F=D.free.map rowI/\cs=D.C
def rfPre (L F:Sx.Rows)(cs:Ak):Prop:=∃D K,Rf D L F cs/\WF D K
def g8 :List G:=[.int .i64,.int .i64,.int .i64,.int .i64,.int .i64,.int .i64,.int .i64,.int .i64]
def HOK (H:Sx.Rows):Prop:=∀r∈H,∃i g:Int,r=[.int i,.int g]/\U32 i/\U32 g
def BI (K:Nat)(L F:Sx.Rows)(bs:Ak)(H S:Sx.Rows)(fr lv:Int)(cs:Ak)(N:Sx.Rows):Prop:=∃D,Rf D L F bs/\RlC D S N fr lv cs/\WF D K/\HOK H/\H.length<=K
open Go Go.Xe Go.Sx
open Go Go.Xe Go.Sx
open Go Go.Xe Go.Sx
open Go Go.Xe Go.Sx
open Go Go.Xe Go.Sx
def vcFre0 (a:Sx.Rows)(p q b c d f g h i j k l:Int)(m o:Sx.Rows):Prop:=
 Nq (ln a)<|Nd (kC (.int p::.int q::JD a b c d f g h i j k l m o) (.int 10::JD a b c d f g h i j k l m o)) True
def vcFre :Prop:=
 ∀p q a c d f g h i j k l m o b,sL (.int p::.int q::JD a c d f g h i j k l m o b)->Nq (ln a) (Cg T9 K9 (.int p::.int q::JE a c d f g h i j k l m o) fun R=>∀t,R [.bool t]->((t=true->Nq (ln a) (Cg H4 E7 (.int p::.int q::JE a c d f g h i j k l m o) fun R=>∀r,R [.int r]->Nb r (ln b) ((cI b r 7=0->((cI b r 8=0->Nq (ln a) (Cg sJ sK (.int p::.int q::.lst a::J10 c d f g h i j k l m [.lst o,.lst b,.lst [],.lst []]) fun R=>∀u x y v z w A B C D F G H s I,R (.lst u::J10 x y v z w A B C D F [.lst G,.lst H,.lst s,.lst I])->Nd (I64 (v-ln s)) (Nd (I64 (w+ln s))<|Nq (ln u)<|Nd (kC (.int p::.int q::JD a c d f g h i j k l m o b) (.int 0::JD u x y (v-ln s) z (w+ln s) A B C D F G H)) True)))/\(¬cI b r 8=0->vcFre0 a p q c d f g h i j k l m o b)))/\(¬cI b r 7=0->vcFre0 a p q c d f g h i j k l m o b))))/\(¬t=true->Nq (ln a) (Nd (kC (.int p::.int q::JD a c d f g h i j k l m o b) (.int 11::JD a c d f g h i j k l m o b)) True))))
def vcFre_eq :kq Go.Proofs.Tryz.prog cFre OH (Mt 0) (Qa 0) 46=vcFre:=by kernel_rfl
def NQ {G G':Nat->Nat}{n:Nod}(h1:n.par= -1\/ ∃p:Nat,n.par=p/\G p=G' p)(h2:∀j∈n.ch,G j=G' j):n.rn G=n.rn G':=by
 unfold Nod.rn;have a:hG' G n.par=hG' G' n.par:=by unfold hG';rcases h1 with e| ⟨p,e,h⟩;rw[e];rfl;rw[e,Re (by omega),Re (by omega),RA,h]
 have b:n.ch.map (F5 G)=n.ch.map (F5 G'):=List.map_congr_left fun j hj=>by unfold F5;rw[h2 j hj]
 rw[a,b]
section
variable {D :DM}{S N S' N':Sx.Rows}{fr lv fr' lv' i g:Int}{K c:Nat}{s:Sl}
def RlX.done (h:RlX D (bel D 1001 c) S N fr lv)(w:WF D K)(hs:D.L[c]? =some s)(l:s.used=true)(hp:s.n.par= -1){C:Ak}:Rl ((bel D 1001 c).foldl B8 D).gen {(bel D 1001 c).foldl B8 D with C:=C} S N fr lv:=by
 obtain⟨T,M,rfl,rfl,h⟩:=h;have k:RlT ((bel D 1001 c).foldl B8 D).gen ((bel D 1001 c).foldl B8 D) T M fr lv:=h.regen fun j sj hj d=>by
  have hn:=R9 (f:=1001) w hs l;have a:∀ {q:Nat},q∉bel D 1001 c->D.gen q=((bel D 1001 c).foldl B8 D).gen q:=fun m=>by unfold DM.gen;rw[J0 m]
  by_cases m:j∈bel D 1001 c;obtain⟨_,s',h1,_⟩:=X6 w hs l j m;rw[mF hn m h1]at hj;cases hj;cases d;rw[J0 m]at hj;obtain⟨k1,k2⟩:=xF w hs l hp hj d m;refine NQ ?_ fun b hb=>a (k2 b hb);rcases w.par j sj hj d with e| ⟨q,r,e,o,p,t⟩;exact .inl e;exact .inr ⟨q,e,a (k1 q r e o p)⟩
 exact⟨T,M,rfl,rfl,k.len,k.row,k.inj,k.free,k.nodup,k.all,k.lv⟩
def vcFre_ok :vcFre:=by
 unfold vcFre;intro i g S fr lv c0 u v w x y z A st N h;obtain⟨hi,hg,hp⟩:=h;have hp':=hp;obtain⟨D,K,⟨k,hc⟩,j⟩:=hp;have o:=k.slen j;refine jI ⟨hi,hg,o⟩ ⟨fun hv=>?_,fun hv=>nin (nrn (ndt (L6 fun D K m j=>?_)))⟩
 ·have facts:∀ {D K},RlC D S N fr lv [c0,u,v,w,x,y,z,A]->WF D K-> ∃c s,D.at i g=some c/\D.L[c]? =some s/\s.used=true/\0<=atF S i g/\atF S i g<N.length/\((cI N (atF S i g) 7=0/\cI N (atF S i g) 8=0)↔s.n.par= -1)/\qW D i g=if s.n.par≠ -1 then(D,10)else({(bel D 1001 c).foldl B8 D with C:=(D.C.modify 0 (· -(bel D 1001 c).length)).modify 2 (· +(bel D 1001 c).length)},0):=fun{D K} m j=>by obtain⟨c,hc⟩:=m.1.vld.1 hv;obtain⟨s,h1,h2,h3,h4,h5,Y,Z,h8,h9,J,X⟩:=m.1.flds hc;refine⟨c,s,hc,h1,h2,Y,Z,?_,?_⟩;rw[h9,J];exact j.hI_zero h1 h2;unfold qW;rw[hc];simp only;rw[h3]
  obtain⟨c,s,q,F,G,H,I,r,t⟩:=facts ⟨k,hc⟩ j;have bad:¬(cI N (atF S i g) 7=0/\cI N (atF S i g) 8=0)->vcFre0 S i g fr lv c0 u v w x y z A st N:=fun hb=>by unfold vcFre0;refine nin (nrn (ndt (L6 fun D K m j=>?_)));obtain⟨c,s,q,F,G,H,I,r,t⟩:=facts m j;rw[t,Rh fun h=>hb (r.2 h)];exact⟨rfl,rfl⟩
  refine aK ⟨hi,hg,o⟩ (M6 H I ⟨fun B=>⟨fun E=>?_,fun E=>bad fun h=>E h.2⟩,fun B=>bad fun h=>B h.1⟩);have hx:∀ {D},RlC D S N fr lv [c0,u,v,w,x,y,z,A]->RlX D [] S N fr lv:=fun h=>h.1;have us:=k.uses;have lS:aN S<=1000:=by have:aN S<=S.length:=List.countP_le_length;omega
  refine nin (nrn (ndi ⟨hi,hg,by show 0+aN S<=1000;omega,rfl,D,[],K,c,k,j,q,fun _ _=>by simp⟩ fun S' fr' lv' b0 R b2 T U b5 V W aa N' Q' W' hr=>?_));obtain⟨M,rfl,_,hF,m⟩:=hr;simp only[Sj,Sq]at M;obtain⟨rfl,rfl,rfl,rfl,rfl,rfl,rfl,rfl⟩:=M;have res:∀ {D K},RlC D S N' fr lv [b0,R,b2,T,U,b5,V,W]->WF D K-> ∃c s,D.L[c]? =some s/\s.used=true/\s.n.par= -1/\RlX D (bel D 1001 c) S' N' fr' lv'/\Q'.length=(bel D 1001 c).length/\qW D i g=({(bel D 1001 c).foldl B8 D with C:=(D.C.modify 0 (· -(bel D 1001 c).length)).modify 2 (· +(bel D 1001 c).length)},0):=fun{D K} k j=>by
   obtain⟨c,s,q,F,G,H,I,r,t⟩:=facts k j;obtain⟨q1,q2⟩:=m D [] K c (hx k) j q fun _ _=>by simp
   have hp:=r.1 ⟨B,E⟩;exact⟨c,s,F,G,hp,by simpa using q1,by simpa using q2,by rw[t,Re (by simp[hp])]⟩
  obtain⟨c,s,k1,k2,k3,O,P,Q⟩:=res ⟨k,hc⟩ j;have bl:(bel D 1001 c).length<=1000:=by have:=dJ (R9 (f:=1001) j k1 k2) fun b hb=>(X6 j k1 k2 b hb).2;have:=List.countP_le_length (p:=fun s:Sl=>s.used) (l:=D.L);have:=j.lim;omega
  have cb:0<=b0/\b0<=1000/\0<=b2/\b2<=1000:=by obtain⟨a,b,c,d,e,f,h',h1,_,h3,h4⟩:=j.cnt;have:=j.lim;have:=List.countP_le_length (p:=fun s:Sl=>s.used) (l:=D.L);rw[<-hc]at h1;simp only[Sj,Sq]at h1;simp only[List.forall_mem_cons]at h4;omega
  have lQ:ln Q'=((bel D 1001 c).length:Int):=by simp only[ln];omega
  refine ndi (by unfold I64;omega) (ndi (by unfold I64;omega) (nin (nrn (ndt ⟨hF,fun D K k j=>?_⟩))));obtain⟨c,s,k1,k2,k3,O,P,Q⟩:=res k j;show RlC (qW D i g).1 S' N' fr' lv' _/\(0:Int)=(qW D i g).2;rw[Q];refine⟨⟨O.done j k1 k2 k3,?_⟩,rfl⟩;rw[<-k.2,<-P];rfl
 unfold qW;rw[m.1.none hv];exact⟨rfl,rfl⟩
