/- DomsPlay: the condition holds.
  Conditions: none. -/
import Derived.Test.YtgmiikiinbaapaaGreatY5
import Derived.Test.YtgmiikiinbaapaaGreatM2
set_option maxRecDepth 100000
set_option linter.all false
noncomputable section
namespace Go.D
open Go Go.Xe Go.Sx
def D0 :DM:=⟨[],[],[0,0,0,0,0,0,0,0]⟩
def wf0 :WF D0 0:=
 ⟨⟨QX _,by omega⟩,fun s h=>by simp[D0]at h,fun i s h=>by simp[D0]at h,fun i s h=>by simp[D0]at h,⟨fun _=>0,fun _=>QX _,fun i s h=>by simp[D0]at h⟩,fun i s h=>by simp[D0]at h,⟨0,0,0,0,0,0,0,rfl,rfl,by omega,by simp⟩,fun i s h=>by simp[D0]at h,List.nodup_nil,fun i h=>by simp[D0]at h⟩
def bi0 :BI 0 [] [] [0,0,0,0,0,0,0,0] [] [] 0 0 [0,0,0,0,0,0,0,0] []:=
 ⟨D0,⟨rfl,rfl,rfl⟩,⟨⟨[],[],rfl,rfl,rfl,fun i s h=>by simp[D0]at h,fun i j ri rj h=>by simp at h,rfl,List.nodup_nil,fun i s h=>by simp[D0]at h,rfl⟩,rfl⟩,wf0,fun r h=>by simp at h,QX _⟩
def BI.mono {K a:Nat}{L F H S N:Sx.Rows}{fr lv:Int}{bs cs:Ak}(h:BI K L F bs H S fr lv cs N)(b:K<=a)(h':a<=1000):BI a L F bs H S fr lv cs N:=by obtain⟨D,h1,h2,h3,h4,c⟩:=h;exact⟨D,h1,h2,h3.mono b h',h4,by omega⟩
def vcNwb_ok :vcNwb:=fun _=>ndt ⟨rfl,rfl,rfl,rfl,rfl,rfl,rfl,rfl⟩
open Go Go.Xe Go.Sx
def NK {l:Sx.Rows}{k:Int}(hl:∀r∈l,O5 r)(k0:0<=k)(hk:k<l.length):B8 (cI l k 0)/\B8 (cI l k 1)/\B8 (cI l k 2)/\B8 (cI l k 3)/\B8 (cI l k 4):=by
 obtain⟨r,hr⟩:=Sx.get_at (T:=l) k0 hk;obtain⟨a,b,c,d,e,rfl,h1,h2,h3,h4,g⟩:=hl r (QK hr);have cell:∀j,cI l k j=(([Dat.int a,.int b,.int c,.int d,.int e]:Ar).getD j (.int 0)).toInt:=fun j=>by have:=c9 (f:=id) hr j;rw[List.map_id]at this;simp only[cI,this];rfl
 rw[cell,cell,cell,cell,cell];exact⟨h1,h2,h3,h4,g⟩
def vcBpl_ok :vcBpl:=by
 unfold vcBpl;intro l m L F b0 E G I J K M O H S fr lv c0 P Q R T U V W st N h;obtain⟨hl,m0,ad,Z⟩:=h;have ab:kb m<=50:=by unfold kb;split<;>omega
 refine nin<|nrn<|nin<|nrn<|ndi ⟨by omega,by omega,m0,rfl,Fr.refl,Z⟩ fun D k C F' c d e f g i j n B S' x y o p q s t u v w z A hI=>?_;obtain⟨k0,k1,km,rfl,hF,a⟩:=hI;have b:(k=m\/k=l.length)->vcBpl0 B S' false l m L F b0 E G I J K M O H S fr lv c0 P Q R T U V W st N C F' c d e f g i j n x y o p q s t u v w A D:=fun _=>by unfold vcBpl0;exact nin<|nrn<|nin<|nrn<|ndi (by simp)<|ndt ⟨rfl,hF,a.mono (by omega) (by omega)⟩
 refine⟨fun hk=>⟨fun aa=>?_,fun _=>b (by omega)⟩,fun hk=>b (.inr (by have hk:¬k<l.length:=hk;omega))⟩;have hk:k<l.length:=hk;obtain⟨h1,h2,h3,h4,Y⟩:=NK hl k0 hk;refine ndi (by omega)<|ndi hk<|nin<|nrn<|nin<|nrn<|ndi (by simp)<|ndi ⟨h1,h2,h3,h4,Y,_,by omega,a⟩ fun r L1 F1 d0 d1 d2 d3 d4 d5 d6 d7 H1 S1 X ac e0 e1 e2 e3 e4 e5 e6 e7 ae N1 hr=>?_;obtain⟨r1,hf,hr⟩:=hr;have hr:=hr _ (by omega) a;refine⟨fun h=>by omega,fun _=>ndi (by unfold I64;omega)<|nin<|nrn<|nin<|nrn<|ndi ⟨by omega,by omega,by omega,rfl,hF.trans hf,?_⟩<|ndt ?_⟩;rw[show kb m+(k+1).toNat=kb m+k.toNat+1 by omega];exact hr;show(l.length-(k+1)).toNat<(l.length-k).toNat;omega
section
variable {A B L N S:Sx.Rows}{k i g fr lv:Int}{r s:Ar}{D:DM}{K c:Nat}{cs:Ak}
def dO (k0:0<=k)(hk:k<A.length):∃r,A[k.toNat]? =some r/\r∈A/\ ∀j,p8 A k j=r.getD j (.int 0):=by obtain⟨r,hr⟩:=Sx.get_at (T:=A) k0 hk;refine⟨r,hr,QK hr,fun j=>?_⟩;have:=c9 (f:=id) hr j;rwa[List.map_id]at this
def cO (k0:0<=k)(h:A.take k.toNat=B.take k.toNat)(e:A[k.toNat]? =B[k.toNat]?):A.take (k+1).toNat=B.take (k+1).toNat:=by rw[show(k+1).toNat=k.toNat+1 by omega,List.take_add_one,List.take_add_one,h,e]
def iO (hk:¬k<A.length)(h:k<=A.length)(hl:A.length=B.length)(e:A.take k.toNat=B.take k.toNat):A=B:=by rwa[RA (by omega),RA (by omega)]at e
def vcEqh_ok :vcEqh:=by
 unfold vcEqh;intro A B h;obtain⟨p,q,w⟩:=h;have no:¬A=B->aX [.lst A,.lst B] [.bool false]:=fun h=>⟨fun e=>by simp at e,fun e=>absurd e h⟩
 refine⟨fun hl=>ndi ⟨by omega,by omega,by have:(A.length:Int)=B.length:=hl;omega,rfl⟩ fun k hI=>?_,fun hl=>ndt (no fun e=>hl (by rw[e]))⟩;obtain⟨k0,k1,o,n⟩:=hI;refine⟨fun hk=>?_,fun hk=>ndt ⟨fun _=>iO hk k1 o n,fun _=>rfl⟩⟩;have hk:k<A.length:=hk;have f:k<B.length:=by omega
 obtain⟨r,r1,t,u⟩:=dO k0 hk;obtain⟨s,s1,s2,v⟩:=dO k0 f;obtain⟨a,b,rfl⟩:=p r t;obtain⟨c,d,rfl⟩:=q s s2;simp only[cI,u,v];have j:¬(a=c/\b=d)->aX [.lst A,.lst B] [.bool false]:=fun h=>no fun e=>by rw[e,s1]at r1;simp at r1;exact h ⟨r1.1.symm,r1.2.symm⟩
 refine ndi (by omega)<|ndi hk<|ndi (by omega)<|ndi f ⟨fun l=>⟨fun m=>ndi (by unfold I64;omega)<|ndi ⟨by omega,by omega,o,cO k0 n ?_⟩<|ndt ?_,fun m=>ndt (j fun h=>m h.2)⟩,fun l=>ndt (j fun h=>l h.1)⟩;rw[r1,s1,show a=c from l,show b=d from m];show(A.length-(k+1)).toNat<(A.length-k).toNat;omega
def vcEqa_ok :vcEqa:=by
 unfold vcEqa;intro A B h;obtain⟨⟨l,m,rfl,rfl⟩,x⟩:=h;have no:¬l.map Att.row=m.map Att.row->fS [.lst (l.map Att.row),.lst (m.map Att.row)] [.bool false]:=fun h=>⟨fun e=>by simp at e,fun e=>absurd e h⟩
 refine⟨fun hl=>ndi ⟨by omega,by omega,by have:((l.map Att.row).length:Int)=(m.map Att.row).length:=hl;omega,rfl⟩ fun k hI=>?_,fun hl=>ndt (no fun e=>hl (by rw[e]))⟩;obtain⟨k0,k1,q,p⟩:=hI;refine⟨fun hk=>?_,fun hk=>ndt ⟨fun _=>iO hk k1 q p,fun _=>rfl⟩⟩;have hk:k<(l.map Att.row).length:=hk;have d:k<(m.map Att.row).length:=by omega
 obtain⟨r,r1,t,u⟩:=dO k0 hk;obtain⟨s,s1,s2,w⟩:=dO k0 d;obtain⟨a,_,rfl⟩:=Sj.1 t;obtain⟨b,_,rfl⟩:=Sj.1 s2;simp only[cS,u,w];have f:¬(a.n=b.n/\a.v=b.v)->fS [.lst (l.map Att.row),.lst (m.map Att.row)] [.bool false]:=fun h=>no fun e=>by rw[e,s1]at r1;simp[Att.row]at r1;exact h ⟨r1.1.symm,r1.2.symm⟩
 refine ndi (by omega)<|ndi hk<|ndi (by omega)<|ndi d ⟨fun j=>⟨fun o=>ndi (by unfold I64;omega)<|ndi ⟨by omega,by omega,q,cO k0 p ?_⟩<|ndt ?_,fun o=>ndt (f fun h=>o h.2)⟩,fun j=>ndt (f fun h=>j h.1)⟩;rw[r1,s1];unfold Att.row;rw[show a.n=b.n from j,show a.v=b.v from o];show((l.map Att.row).length-(k+1)).toNat<((l.map Att.row).length-k).toNat;omega
def RlC.kid (h:RlC D S N fr lv cs)(w:WF D K)(hk:D.at i g=some c):S.length<=1000/\0<=atF S i g/\atF S i g<ln N/\(∃l:List Att,cL N (atF S i g) 2=l.map Att.row/\l.length<=8)/\HR2 (cL N (atF S i g) 9)/\(cL N (atF S i g) 9).length<=1000/\ ∃n:Nod,∀j,p8 N (atF S i g) j=(n.rn D.gen).row.getD j (.int 0):=by
 obtain⟨s,h1,h2,h3,h4,d,e,a⟩:=h.1.node hk;have b:cL N (atF S i g) 9=s.n.ch.map (E3 D.gen):=by unfold cL;rw[a];rfl
 refine⟨h.1.slen w,d,e,⟨s.n.atts,by unfold cL;rw[a];rfl,(w.atts c s h1 h3).1⟩,fun r hr=>?_,by rw[b,QT];exact w.kidlen h1 h3,s.n,a⟩;rw[b]at hr;obtain⟨j,_,rfl⟩:=Sj.1 hr;exact⟨_,_,rfl⟩
theorem vcSm1_ok :vcSm1:=by
 unfold vcSm1;intro i g j h S fr lv c0 F G H I J M O st S2 o u P Q R T U V W X v N hp;obtain⟨ui,ug,uj,uh,D,D2,K,K2,a,b,hR,aa,w,w2,ha,hb⟩:=hp;have no:¬(i=j/\g=h/\alk N S S2 i g)->vcSm10 i g j h S fr lv c0 F G H I J M O st S2 o u P Q R T U V W X v N:=fun hn=>ndt ⟨fun e=>by simp at e,fun e=>absurd e hn⟩;refine⟨fun Y=>⟨fun Z=>?_,fun e=>no fun h=>e h.2.1⟩,fun e=>no fun h=>e h.1⟩;subst Y;subst Z;obtain⟨l1,p0,p1,⟨l,hl,ll⟩,hh,lh,n,hn⟩:=hR.kid w ha;obtain⟨l2,q0,q1,⟨m,hm,lm⟩,ab,ac,n2,E⟩:=aa.kid w2 hb;have no:∀f,f<10-> ¬p8 N (atF S i g) f=p8 N (atF S2 i g) f->vcSm10 i g i g S fr lv c0 F G H I J M O st S2 o u P Q R T U V W X v N:=fun f hf hn=>no fun h=>hn (h.2.2 f hf);have d:∀ {α:Type} (q:Dat->α) (f:Nat),f<10-> ¬q (p8 N (atF S i g) f)=q (p8 N (atF S2 i g) f)->vcSm10 i g i g S fr lv c0 F G H I J M O st S2 o u P Q R T U V W X v N:=fun q f hf h=>no f hf fun e=>h (by rw[e]);refine nin<|nrn<|ndi ⟨ui,ug,l1⟩ fun p hp=>?_;have hp:p=atF S i g:=hp;subst hp;refine ndi (by omega)<|ndi p1<|nin<|nrn<|ndi ⟨ui,ug,l2⟩ fun p hp=>?_;have hp:p=atF S2 i g:=hp;subst hp;refine ndi (by omega)<|ndi q1<|ndi ⟨⟨l,m,hl,hm⟩,by rw[hl,QT];omega⟩ fun b1 z=>⟨fun t1=>ndi ⟨hh,ab,lh⟩ fun b2 C=>⟨fun t2=>?_,fun t2=>d Dat.rows 9 (by omega) fun e=>t2 (C.2 e)⟩,fun t1=>d Dat.rows 2 (by omega) fun e=>t1 (z.2 e)⟩
 have Z:cL N (atF S i g) 2=cL N (atF S2 i g) 2:=z.1 t1;have e9:cL N (atF S i g) 9=cL N (atF S2 i g) 9:=C.1 t2;refine⟨fun e0=>⟨fun Y=>⟨fun e3=>⟨fun e4=>⟨fun e5=>⟨fun e6=>ndt ⟨fun t=>⟨rfl,rfl,?_⟩,fun t=>?_⟩,fun e=>d Dat.toBool 6 (by omega) fun h=>e (by unfold cB;rw[h];simp)⟩,d Dat.toInt 5 (by omega)⟩,d Dat.toInt 4 (by omega)⟩,d Dat.toStr 3 (by omega)⟩,d Dat.toStr 1 (by omega)⟩,d Dat.toInt 0 (by omega)⟩
 ·simp only[QB,QV]at t;have e6:cB N (atF S i g) 6=cB N (atF S2 i g) 6:=by simpa using e6
  obtain⟨e7,e8⟩:=t;simp only[cI,cS,cL,cB,hn,E]at e0 Y Z e3 e4 e5 e6 e7 e8 e9;intro f hf;rw[hn,E];have:(n.rn D.gen).row=(n2.rn D2.gen).row:=by generalize n.rn D.gen=x at*;generalize n2.rn D2.gen=y at*;obtain⟨x0,x1,x2,x3,x4,x5,x6,x7,x8,x9⟩:=x;obtain⟨y0,y1,y2,y3,y4,y5,y6,y7,y8,y9⟩:=y;simp[RN.row,Dat.toInt,Dat.toStr,Dat.rows,Dat.toBool]at*;grind
  rw[this]
 obtain⟨_,_,t⟩:=t;simp[cI,t 7,t 8]
def vcOwv_ok :vcOwv:=by
 unfold vcOwv;intro kk t A x j sz pn pi pg C h;obtain⟨l,m⟩:=h;have o:0<=ln A:=by simp only[ln];omega
 have p:0<=ln C:=by simp only[ln];omega
 have l:ln A<=1000:=by simp only[ln];omega
 have m:ln C<=1000:=by simp only[ln];omega
 have a:∀ {L:Sx.Rows},ln L=0->[]=L:=fun h=>(QG (by simp only[ln]at h;omega)).symm;have ov:∀ {L:Sx.Rows},¬0<ln L->Sx.over (b8 2 0 []) 0 L=L:=fun{L} h=>by have:=a (L:=L) (by simp only[ln]at h⊢;omega);subst this;rfl
 have pt:∀ {L:Sx.Rows},¬0<ln L->pQ (Sx.over (b8 2 0 []) 0 L) 0 (ln L)=L:=fun{L} h=>by have:=a (L:=L) (by simp only[ln]at h⊢;omega);subst this;rfl
 have f:∀ {L:Sx.Rows},b8 2 0 []++L=L:=rfl;have b:∀ {d e:Sx.Rows},d=A->e=C->W0 [.int kk,.str t,.lst A,.str x,.int j,.int sz,.bool pn,.int pi,.int pg,.lst C] [.int kk,.str t,.lst d,.str x,.int j,.int sz,.bool pn,.int pi,.int pg,.lst e]:=fun h1 h2=>by subst h1;subst h2;rfl
 intro n
 repeat' with_reducible first
  |exact b (by first|rfl|exact f|exact a ‹_› |exact pt ‹_›) (by first|rfl|exact f|exact a ‹_› |exact pt ‹_›)
  |refine nin ?_
  |refine nrn ?_
  |refine ndt ?_
  |refine ndi (by first|assumption|omega| (rw[ov (L:=A) ‹_›];omega)| (rw[ov (L:=C) ‹_›];omega)) ?_
  |refine Rc (fun _=>?_) (fun _=>?_)
  |intro _
