/- The DOM: what only reads, with answers that are lists of their own: the conditions hold.
  Conditions: none. -/
import Derived.Test.YtgmiikiinbaapaaGreatZ3
set_option linter.all false
noncomputable section
namespace Go.D
open Go Go.Xe Go.Sx
def vcLka_ok :vcLka:=by
 unfold vcLka;intro i g S fr lv c0 m o p q r t u st N h;obtain⟨hi,hg,D,K,f,j⟩:=h;have a:=f.slen j;refine U3 ⟨hi,hg,a⟩ ⟨fun hv=>?_,fun hv=>ndt ?_⟩
 ·obtain⟨c,hk⟩:=f.vld.1 hv;obtain⟨s,h1,h2,h3,h4,v,w,l⟩:=f.node hk;have C:ln (cL N (atF S i g) 2)<=8:=by
   have:cL N (atF S i g) 2=s.n.atts.map Att.row:=by unfold cL;rw[l];rfl
   rw[this];simp only[ln,PD];have:=(j.atts c s h1 h3).1;omega
  have E:ln (cL N (atF S i g) 9)<=1000:=by
   have:cL N (atF S i g) 9=s.n.ch.map (D9 D.gen):=by unfold cL;rw[l];rfl
   rw[this];simp only[ln,PD];have:=j.kidlen h1 h3;omega
  have e:∀ {A B:Sx.Rows},A=cL N (atF S i g) 2->B=cL N (atF S i g) 9->R6 [.int i,.int g,.lst S,.int fr,.int lv,.int c0,.int m,.int o,.int p,.int q,.int r,.int t,.int u,.lst st,.lst N] [.int (cI N (atF S i g) 0),.str (cS N (atF S i g) 1),.lst A,.str (cS N (atF S i g) 3),.int (cI N (atF S i g) 4),.int (cI N (atF S i g) 5),.bool (cB N (atF S i g) 6),.int (cI N (atF S i g) 7),.int (cI N (atF S i g) 8),.lst B,.int 0]:=fun x y=>by show ite _ _ _;rw[PG hv];exact⟨rfl,rfl,x,rfl,rfl,rfl,rfl,rfl,rfl,y,rfl⟩
  refine E2 ⟨hi,hg,a⟩ (C0 v w ?_);have b:∀ {L:Sx.Rows},ln L=0->[]=L:=fun h=>(Pr (by simp only[ln]at h;omega)).symm;have d:∀ {L:Sx.Rows},0<=ln L:=fun{L}=>by simp only[ln];omega
  have ov:∀ {L:Sx.Rows},¬0<ln L->Sx.over (b8 2 0 []) 0 L=L:=fun{L} h=>by have:=b (L:=L) (by have:=d (L:=L);omega);subst this;rfl
  have pt:∀ {L:Sx.Rows},¬0<ln L->pQ (Sx.over (b8 2 0 []) 0 L) 0 (ln L)=L:=fun{L} h=>by have:=b (L:=L) (by have:=d (L:=L);omega);subst this;rfl
  have F:=d (L:=cL N (atF S i g) 2);have G:=d (L:=cL N (atF S i g) 9);have k:∀ {L:Sx.Rows},b8 2 0 []++L=L:=rfl;intro z
  repeat' with_reducible first
   |exact e (by first|rfl|exact k|exact b ‹_› |exact pt ‹_›) (by first|rfl|exact k|exact b ‹_› |exact pt ‹_›)
   |refine nin ?_
   |refine nrn ?_
   |refine ndt ?_
   |refine ndi (by first|assumption|omega| (rw[ov (L:=cL N (atF S i g) 2) ‹_›];omega)| (rw[ov (L:=cL N (atF S i g) 9) ‹_›];omega)) ?_
   |refine PM (fun _=>?_) (fun _=>?_)
   |intro _
 show ite _ _ _;rw[PE hv]
def vcWaa_ok :vcWaa:=by
 unfold vcWaa;intro S fr lv c0 u v x y z A B st h;obtain⟨D,K,N,⟨T,M,rfl,rfl,b⟩,o⟩:=h;have hl:=b.len;have lim:=o.lim;have fl:=b.free.le b.nodup;have n:=b.free.rng;refine ndi ⟨n.1,by rw[PD];exact n.2,rfl,by rw[b.free.len 1001 (by omega)];simp;omega,T,_,rfl,b.free,b.nodup⟩ fun O i hI=>?_;obtain⟨i0,p,k,d,T',l,m,c,hn⟩:=hI;rw[m]at p k d⊢;have s:T'.length=T.length:=by have:=congrArg List.length m;simpa using this.symm
 have E:=c.le hn;have cl:=c.len 1001 (by omega);rw[cl]at d;have lo:ln O<=1000:=by simp only[ln];omega
 have t:0<=ln O:=by simp only[ln];omega
 have q:ln (T'.map RS.row)=(T.length:Int):=by simp[ln,s]
 refine⟨fun hi=>?_,fun hi=>ndi (by omega) (nin (nin (nin (nrn (nrn (ndi (by omega) (ndt ?_)))))))⟩
 ·cases l with
  |nil=>have:i=0:=c;omega|cons a l=>
   obtain⟨h1,r,h2,h3,h4⟩:=c;have C:=(Po.1 h2).1;have e:i+ -1=(a:Int):=by omega
   have e':i-1=(a:Int):=by omega
   have hr:T'[((a:Nat):Int).toNat]? =some r:=by rw[Qd];exact h2
   have nx:cI (T'.map RS.row) a 2=r.nx:=by simp only[cI];rw[i4 hr];rfl
   rw[e];have w:IntKind.wrap .u32 (a:Int)=a:=M9 (by simp[IntKind.min,IntKind.signed]) (by simp[IntKind.max,IntKind.signed,IntKind.bits];omega);rw[w,nx];have b0:(a:Int)<ln (T'.map RS.row):=by rw[q];omega
   have g:I64 (a:Int):=by unfold I64;omega
   have j:=(List.nodup_cons.1 hn).2;have d:O.length+(l.length+1)<=1000:=d;have hg:=h4.rng;refine ndi g (ndi g (ndi (by omega) (ndi b0 (ndi b0 (nin (ndi (by omega) (nrn (ndi g (ndi (by omega) (ndi b0 (ndi b0 (nin (nrn (ndi ⟨hg.1,by rw[PD];exact hg.2,?_,?_,T',l,rfl,h4,j⟩ (ndt ?_)))))))))))))))
   ·rw[<-k,Py];congr 1;have:(1001-O.length)=(1001-(O++b8 2 1 [.int (a:Int),.int (cI (T'.map RS.row) a 0)]).length)+1:=by
     have:(O++b8 2 1 [.int (a:Int),.int (cI (T'.map RS.row) a 0)]).length=O.length+1:=by rw[PL];rfl
     omega
    rw[this]
    conv=>rhs;unfold waF
    rw[PG hi,e',nx];rfl
   rw[h4.len 1001 (by omega),PL];show O.length+1+l.length<=1000;omega;show chL (T'.map RS.row) 1001 r.nx<chL (T'.map RS.row) 1001 i;rw[h4.len 1001 (by omega),cl];simp
 ·show O=waF (T'.map RS.row) 1001 fr;rw[<-k];have:∀f,waF (T'.map RS.row) f i=[]:=fun f=>by cases f<;>simp[waF,hi]
  rw[this,QX]
def vcRoa_ok :vcRoa:=by
 unfold vcRoa;intro S fr lv c0 z A B C E F G st N h;obtain⟨D,K,l,m⟩:=h;obtain⟨j,v⟩:=l.hds m;have d:=j.1;refine nin (nrn (ndi j fun H a=>ndi ?_ fun O k hI=>?_));exact⟨by omega,by omega,by simp,rfl⟩;have a:H=hdF S 0:=a;obtain⟨k0,k1,k2,k3⟩:=hI;have x:(H.length:Int)=lv:=by rw[a];exact j.2.1.symm
 have y:=m.live l;have lo:ln O<=1000:=by simp only[ln];omega
 have w:0<=ln O:=by simp only[ln];omega
 refine⟨fun hk=>?_,fun hk=>ndi (by omega) (nin (nin (nin (nrn (nrn (ndi (by omega) (ndt ?_)))))))⟩
 ·have n:k<H.length:=hk;obtain⟨r,r1,o⟩:=W3 k0 n;have hr:r∈H:=QU (by rw[r1];exact List.mem_cons_self);obtain⟨i,g,c,rfl,hc⟩:=v r (by rw[<-a];exact hr);have e0:cI H k 0=i:=by simp only[cI,o];rfl
  have p:cI H k 1=g:=by simp only[cI,o];rfl
  have u:=m.u32 hc;obtain⟨s,h1,h2,h3,h4,I,q,t,_⟩:=l.flds hc;rw[r1]at k3;have step:∀b,roB S N [.int i,.int g]=b->(H.drop k.toNat).filter (roB S N)=(if b then [[.int i,.int g]]else [])++(H.drop (k+1).toNat).filter (roB S N):=fun b hb=>by rw[r1,List.filter_cons,hb];cases b<;>simp
  rw[<-r1]at k3;rw[e0,p];have no:roB S N [.int i,.int g]=false->vcRoa0 k O S N H:=fun hb=>by unfold vcRoa0;rw[step false hb]at k3;refine ndi (by unfold I64;omega) (nin (nrn (ndi ⟨by omega,by omega,by omega,by simpa using k3⟩ (ndt ?_))));simp only[bC];omega
  refine ndi (by omega) (ndi hk (E2 ⟨u.1,u.2.1,d⟩ ?_));refine C0 q t ⟨fun e=>⟨fun f=>?_,fun f=>no ?_⟩,fun e=>no ?_⟩
  ·have hb:roB S N [.int i,.int g]=true:=by show(decide (cI N (atF S i g) 7=0)&&decide (cI N (atF S i g) 8=0))=true;simp[e,f]
   rw[step true hb]at k3;refine nin (ndi (by omega) (nrn (ndi (by unfold I64;omega) (nin (nrn (ndi ⟨by omega,by omega,?_,?_⟩ (ndt ?_)))))));rw[PL];show((O.length+1:Nat):Int)<=k+1;omega;rw[Py];exact k3;simp only[bC];omega
  show(decide (cI N (atF S i g) 7=0)&&decide (cI N (atF S i g) 8=0))=false;simp[f];show(decide (cI N (atF S i g) 7=0)&&decide (cI N (atF S i g) 8=0))=false;simp[e]
 have hk:¬k<(H.length:Int):=hk;rw[List.drop_eq_nil_of_le (by omega)]at k3;show O=(hdF S 0).filter (roB S N);rw[<-a,<-k3];simp
def MD {l:Sx.Rows}{k:Int}(hl:∀r∈l,O5 r)(k0:0<=k)(hk:k<l.length):B8 (cI l k 0)/\B8 (cI l k 1)/\B8 (cI l k 2)/\B8 (cI l k 3)/\B8 (cI l k 4):=by
 obtain⟨r,hr⟩:=Sx.get_at (T:=l) k0 hk;obtain⟨a,b,c,d,e,rfl,h1,h2,h3,h4,g⟩:=hl r (Pv hr);have cell:∀j,cI l k j=(([Dat.int a,.int b,.int c,.int d,.int e]:Ar).getD j (.int 0)).toInt:=fun j=>by have:=i4 (f:=id) hr j;rw[List.map_id]at this;simp only[cI,this];rfl
 rw[cell,cell,cell,cell,cell];exact⟨h1,h2,h3,h4,g⟩
def vcBpl_ok :vcBpl:=by
 unfold vcBpl;intro l m L F b0 E G I J K M O H S fr lv c0 P Q R T U V W st N h;obtain⟨hl,m0,ad,Z⟩:=h;have ab:kb m<=50:=by unfold kb;split<;>omega
 refine nin<|nrn<|nin<|nrn<|ndi ⟨by omega,by omega,m0,rfl,Fr.refl,Z⟩ fun D k C F' c d e f g i j n B S' x y o p q s t u v w z A hI=>?_;obtain⟨k0,k1,km,rfl,hF,a⟩:=hI;have b:(k=m\/k=l.length)->vcBpl0 B S' false l m L F b0 E G I J K M O H S fr lv c0 P Q R T U V W st N C F' c d e f g i j n x y o p q s t u v w A D:=fun _=>by unfold vcBpl0;exact nin<|nrn<|nin<|nrn<|ndi (by simp)<|ndt ⟨rfl,hF,a.mono (by omega) (by omega)⟩
 refine⟨fun hk=>⟨fun aa=>?_,fun _=>b (by omega)⟩,fun hk=>b (.inr (by have hk:¬k<l.length:=hk;omega))⟩;have hk:k<l.length:=hk;obtain⟨h1,h2,h3,h4,Y⟩:=MD hl k0 hk;refine ndi (by omega)<|ndi hk<|nin<|nrn<|nin<|nrn<|ndi (by simp)<|ndi ⟨h1,h2,h3,h4,Y,_,by omega,a⟩ fun r L1 F1 d0 d1 d2 d3 d4 d5 d6 d7 H1 S1 X ac e0 e1 e2 e3 e4 e5 e6 e7 ae N1 hr=>?_;obtain⟨r1,hf,hr⟩:=hr;have hr:=hr _ (by omega) a;refine⟨fun h=>by omega,fun _=>ndi (by unfold I64;omega)<|nin<|nrn<|nin<|nrn<|ndi ⟨by omega,by omega,by omega,rfl,hF.trans hf,?_⟩<|ndt ?_⟩;rw[show kb m+(k+1).toNat=kb m+k.toNat+1 by omega];exact hr;show(l.length-(k+1)).toNat<(l.length-k).toNat;omega
def vcOwn_ok :vcOwn:=by
 unfold vcOwn;intro l N h;obtain⟨rfl,hl⟩:=h;refine ndi trivial fun L F b0 U V X Y Z b6 b7 H S fr lv c0 c1 c2 c3 c4 c5 c6 c7 st hn=>?_;obtain⟨rfl,rfl,rfl,rfl,rfl,rfl,hb,hc⟩:=hn;refine nin<|nrn<|nin<|nrn<|ndi ⟨hl,by omega,by omega,by rw[hb,hc];exact bi0⟩ fun r L F b0 U V X Y Z b6 b7 H S fr lv c0 c1 c2 c3 c4 c5 c6 c7 st N hr=>?_;obtain⟨r1,_,K⟩:=hr;have z:=K;obtain⟨D,B,m,w,hH,M⟩:=K;have M:H.length<=40:=M;refine⟨fun h=>by omega,fun _=>ndi ⟨by omega,by omega⟩ fun i hI=>?_⟩;obtain⟨i0,i1⟩:=hI;have nx:i<H.length->Sx.Nd (I64 (i+1)) (Sx.Nd (fA [.lst H] [.int (i+1)]) (Sx.Nd (fB [.lst H] [.int (i+1)]<fB [.lst H] [.int i]) True)):=fun hi=>by refine ndi (by unfold I64;omega)<|ndi ⟨by omega,by omega⟩<|ndt ?_;show(H.length-(i+1)).toNat<(H.length-i).toNat;omega
 have kids:∀ {c:Nat} {i g:Int},D.at i g=some c->(cL N (atF S i g) 2).length<=1000/\(cL N (atF S i g) 9).length<=1000:=fun{c i g} hk=>by
  obtain⟨s,h1,h2,h3,h4,h5,h6,J⟩:=m.1.node hk;have:cL N (atF S i g) 2=s.n.atts.map Att.row:=by unfold cL;rw[J];rfl
  have e9:cL N (atF S i g) 9=s.n.ch.map (D9 D.gen):=by unfold cL;rw[J];rfl
  rw[this,e9,PD,PD];have:=(w.atts _ s h1 h3).1;have:=w.kidlen h1 h3;omega
 have I:∀ {k:Int} {n:Nat},k<n->n<=1000->0<=k->I64 (k+1):=fun h1 h2 h3=>by unfold I64;omega
 have mu:∀ {A:Sx.Rows} {k:Int} {j:Nat} {d:Dat},k<A.length->0<=k->((a8 A k j d).length-(k+1)).toNat<(A.length-k).toNat:=fun h1 h2=>by rw[a8,List.length_modify];omega
 have ls:∀ {A:Sx.Rows} {k:Int} {j:Nat} {d:Dat},A.length<=1000->(a8 A k j d).length<=1000:=fun h=>by rw[a8,List.length_modify];exact h
 refine⟨fun hi=>?_,fun _=>?_⟩
 ·have hi:i<H.length:=hi;have O:¬i<0:=by omega
  obtain⟨q,hq⟩:=Sx.get_at (T:=H) i0 hi;obtain⟨a,g,rfl,P,Q⟩:=hH _ (Pv hq);have cell:∀j,cI H i j=(([Dat.int a,.int g]:Ar).getD j (.int 0)).toInt:=fun j=>by have:=i4 (f:=id) hq j;rw[List.map_id]at this;simp only[cI,this];rfl
  rw[cell,cell];refine ndi O<|ndi hi<|ndi hi<|nin<|nrn<|ndi ⟨P,Q,D,_,m.1,w⟩ fun kk t A x tp sz pn pi pg C r hr=>⟨fun e=>?_,fun _=>nx hi⟩
  have hr:if v9 S a g=true then _ else r=11:=hr
  by_cases hv:v9 S a g=true;obtain⟨c,hc⟩:=m.1.vld.1 hv;rw[PG hv]at hr;obtain⟨rfl,rfl,rfl,rfl,rfl,rfl,rfl,rfl,rfl,rfl,rfl⟩:=hr;obtain⟨o,p⟩:=kids hc;refine nin<|nrn<|nin<|nrn<|ndi ⟨by omega,o,p⟩ fun k _ _ A _ _ _ _ _ _ C hI=>?_;obtain⟨k0,o,p⟩:=hI;refine⟨fun hk=>ndi (by omega)<|ndi hk<|ndi hk<|ndi (I hk o k0)<|nin<|nrn<|nin<|nrn<|ndi ⟨by omega,ls o,p⟩<|ndt (mu hk k0),fun _=>nin<|nrn<|nin<|nrn<|ndi ⟨by omega,o,p⟩ fun k _ _ A _ _ _ _ _ _ C hI=>?_⟩;obtain⟨k0,o,p⟩:=hI;refine⟨fun hk=>ndi (by omega)<|ndi hk<|ndi hk<|ndi (I hk p k0)<|nin<|nrn<|nin<|nrn<|ndi ⟨by omega,o,ls p⟩<|ndt (mu hk k0),fun _=>?_⟩;exact ndi O<|ndi hi<|ndi hi<|nin<|nrn<|ndi ⟨P,Q,D,_,m.1,w⟩ fun kk t y A x C r _=>⟨fun _=>⟨fun h=>ndi h<|ndi h<|nx hi,fun _=>nx hi⟩,fun _=>nx hi⟩
  rw[PE hv]at hr;omega
 ·have lR:∀R:Sx.Rows,R=(hdF S 0).filter (roB S N)->R.length<=1000:=fun R E=>by rw[E,Dp B m w,PD];have:(fG L L.length).length<=(List.range L.length).length:=List.length_filter_le ..;rw[List.length_range]at this;have:=B.len w;omega
  have lW:D.free.length<=1000:=by
   have hs:D.free ⊆ List.range D.L.length:=fun j hj=>by obtain⟨s,h1,_⟩:=w.free.2 j hj;exact List.mem_range.2 (Po.1 h1).1
   have h9:=w.free.1.length_le_of_subset hs;have:=w.lim;rw[List.length_range]at h9;omega
  refine nin<|nrn<|ndi ⟨D,_,m.1,w⟩ fun R G=>nin<|nrn<|ndi ⟨D,_,N,m.1,w⟩ fun W v=>?_;have v:W=waF S 1001 fr:=v;rw[vH B m w]at v;refine nin<|nrn<|ndi ⟨by omega,lR _ G⟩ fun k R hI=>?_;obtain⟨k0,u⟩:=hI;refine⟨fun hk=>ndi (by omega)<|ndi hk<|ndi hk<|ndi (I hk u k0)<|nin<|nrn<|ndi ⟨by omega,ls u⟩<|ndt (mu hk k0),fun _=>nin<|nrn<|ndi ⟨by omega,by rw[v,PD];exact lW⟩ fun k W hI=>?_⟩;obtain⟨k0,u⟩:=hI;refine⟨fun hk=>ndi (by omega)<|ndi hk<|ndi hk<|ndi (I hk u k0)<|nin<|nrn<|ndi ⟨by omega,ls u⟩<|ndt (mu hk k0),fun _=>?_⟩;refine nin<|nrn<|nin<|nrn<|ndi ⟨_,z⟩ fun r hr=>⟨fun _=>ndi rfl fun b hb=>ndt ?_,fun h=>absurd hr h⟩
  have hb: [Dat.bool b]=[Dat.bool true]:=hb;simp only[QE,Dat.bool.injEq,QH]at hb;exact hb
