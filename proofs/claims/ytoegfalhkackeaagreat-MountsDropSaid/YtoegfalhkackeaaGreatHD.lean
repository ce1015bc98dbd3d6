/- MountsDrop: the conditions of Play, New, the reference's Handles, Drop and Clear, and of list hold.
  Conditions: none. -/
import Derived.Test.YtoegfalhkackeaaGreatX3
set_option maxRecDepth 100000
set_option linter.all false
noncomputable section
namespace Go.D
open Go Go.Xe Go.Sx
def BI.mono {K a:Nat}{L F H S N:a8}{fr lv:Int}{bs cs:Ak}(h:BI K L F bs H S fr lv cs N)(b:K<=a)(h':a<=1000):BI a L F bs H S fr lv cs N:=by obtain⟨D,h1,h2,h3,h4,c⟩:=h;exact⟨D,h1,h2,h3.mono b h',h4,by omega⟩
def bi0 :BI 0 [] [] [0,0,0,0,0,0,0,0] [] [] 0 0 [0,0,0,0,0,0,0,0] []:=
 ⟨DE,⟨rfl,rfl,rfl⟩,rlE ⟨[],rfl⟩ rfl,wfE,λr h=>by simp at h,Tq _⟩
def vp :Wa:=λ_=>ndt ⟨rfl,rfl,rfl,rfl,rfl,rfl,rfl,rfl⟩
def It {l:a8}{k:Int}(hl:∀r∈l,O5 r)(k0:0<=k)(hk:k<l.length):B8 (cI l k 0)/\B8 (cI l k 1)/\B8 (cI l k 2)/\B8 (cI l k 3)/\B8 (cI l k 4):=by
 obtain⟨r,hr⟩:=Sx.get_at (T:=l) k0 hk;obtain⟨a,b,c,d,e,rfl,h1,h2,h3,h4,g⟩:=hl r (Td hr);have cell:∀j,cI l k j=(([Dat.i a,.i b,.i c,.i d,.i e]:Ar).getD j (.i 0)).toInt:=λj=>by have:=d9 (f:=id) hr j;rw[List.map_id]at this;simp only[cI,this];rfl
 rw[cell,cell,cell,cell,cell];exact⟨h1,h2,h3,h4,g⟩
def yr :yv:=by
 unfold yv;intro l m L F b0 D E G I J K M H S fr lv c0 O P Q R T U V st N h;obtain⟨hl,m0,ab,Y⟩:=h;refine nin<|nrn<|nin<|nrn<|ndi ⟨by omega,by omega,m0,rfl,Y⟩ λC k B F' c d e f g i j n A S' x y o p q s t u v w z st' hI=>?_;obtain⟨k0,k1,km,rfl,a⟩:=hI;have b:jq A S' false l m L F b0 D E G I J K M H S fr lv c0 O P Q R T U V st N B F' c d e f g i j n x y o p q s t u v w st' C:=by unfold jq;exact nin<|nrn<|nin<|nrn<|ndi (by simp)<|ndt ⟨rfl,a.mono (by omega) (by omega)⟩
 refine⟨λhk=>⟨λZ=>?_,λ_=>b⟩,λhk=>b⟩;have hk:k<l.length:=hk;obtain⟨h1,h2,h3,h4,X⟩:=It hl k0 hk;refine ndi (by omega)<|ndi hk<|nin<|nrn<|nin<|nrn<|ndi (by simp)<|ndi ⟨h1,h2,h3,h4,X,_,by omega,a⟩ λr L1 F1 d0 d1 d2 d3 d4 d5 d6 d7 H1 S1 W aa e0 e1 e2 e3 e4 e5 e6 e7 ac N1 hr=>?_;obtain⟨r1,hf,hr⟩:=hr;have hr:=hr _ (by omega) a;refine⟨λh=>by omega,λ_=>ndi (by unfold I64;omega)<|nin<|nrn<|nin<|nrn<|ndi ⟨by omega,by omega,by omega,rfl,?_⟩<|ndt ?_⟩;rw[show(k+1).toNat=k.toNat+1 by omega];exact hr;show(l.length-(k+1)).toNat<(l.length-k).toNat;omega
def Jm {j:Nat}(h:j<=1000):IntKind.wrap .u32 (j:Int)=j:=P4 (by simp[IntKind.min,IntKind.signed]) (by simp[IntKind.max,IntKind.signed,IntKind.bits];omega)
def Qy {D:DM}{L:a8}{j:Nat}{s:Sl}(h:L=D.L.map Sl.row)(hs:D.L[j]? =some s):cI L j 0=s.g:=by
 subst h;have:D.L[((j:Nat):Int).toNat]? =some s:=by rw[TK];exact hs
 simp only[cI,d9 this];unfold Sl.row;split<;>rfl
def su :te:=by
 unfold te;rintro L F c0 E G H I J M N i g ⟨z,y,D,K,q,c,w,hq⟩;have A:=c.vld.2 ⟨q,hq⟩;obtain⟨s,s1,s2,t,_⟩:=UW hq;refine ndi ⟨z,y,c.len w⟩ λr hr=>?_;have hr:r=if t9 L i g=true then i else-1:=hr
 rw [Tp A] at hr;subst hr;refine ndi ⟨D,K,q,c,w,t,s,s1,s2⟩ λX o=>?_;have a:=o D K q c.1 w t ⟨s,s1,s2⟩;have R:ln X<=1000:=by rw[a];unfold ln;rw[Tm];have:=rY w s1 s2;omega
 refine ndi ⟨by omega,by omega,rfl,λl _=>rfl⟩ λk O hI=>?_;obtain⟨k0,k1,m,n⟩:=hI;have k1:k<=ln X:=k1;have m:ln O=k:=m;refine⟨λhk=>?_,λhk=>nin (nrn (ndt λD' u q' hL w' f=>?_))⟩
 .obtain⟨b,hb⟩:=Sx.get_at (T:=bel D 1001 q) k0 (by rw[a]at hk;simpa [ln]using hk);have x:cI X k 0=b:=by rw[a];exact dm hb
  obtain⟨_,S,v,B⟩:=J0 w s1 s2 b (Td hb);have C:=(SW.1 v).1;have lim:=w.lim;have Q:ln L=D.L.length:=by rw[c.1];simp[ln]
  refine ndi (by omega) (ndi hk ⟨λh=>by omega,λ_=>ndi (by omega) (ndi (by omega) (nin (ndi (by omega) (nrn (ndi ⟨by omega,by omega⟩ (nin (nrn (ndi ⟨by omega,?_,?_,λl e=>?_⟩ (ndt ?_)))))))))⟩);show k+1<=ln X;omega;rw[Tv];show((O.length+1:Nat):Int)=k+1;unfold ln at m;omega
  .have hl:l=bel D 1001 q:=by have:=congrArg (List.map λr:Ar=>(r.getD 0 (.i 0)).toInt.toNat) (e.symm.trans a);simpa [List.map_map,Function.comp_def,z5,Dat.toInt]using this
   rw[n l e,show(k+1).toNat=k.toNat+1 by omega,E1 (by rw[hl];exact hb),TQ,x,Jm (by omega)];rfl
  show(X.length-(k+1)).toNat<(X.length-k).toNat;unfold ln at hk;omega
 .obtain⟨s',t1,t2,t3,_⟩:=UW f;have d:=o D' u q' hL w' t3 ⟨s',t1,t2⟩;rw[n _ d,TT (by rw[d]at hk;simp[ln]at hk;omega)];refine List.map_congr_left λj hj=>?_;obtain⟨_,sj,p,P⟩:=J0 w' t1 t2 j hj;show [Dat.i j,.i (cI L j 0)]=[Dat.i j,.i (D'.gen j)]
  rw[Qy hL p,UY p]
def tj :tr:=by
 unfold tr;rintro L F c0 u v x y z A B i g ⟨f,d,D,K,a,w,b⟩;refine ndi ⟨f,d,D,K,a,w⟩ λt F1 C E G H I J M N r1 h1=>?_;refine ndi ⟨f,d,_,_,(h1 D K a w).1,w.rem b⟩ λk j e0 l m n o q r s O h2=>ndt λD K a w b=>?_;have h:Rf (S3 (V3 D i g).1 i g).1 k j [e0,l,m,n,o,q,r,s]:=(h2 _ _ (h1 D K a w).1 (w.rem b)).1;unfold W8;cases e:D.at i g with
 |none=>
  have:V3 D i g=(D,11):=by unfold V3;rw[e]
  rw[this]at h;have:S3 D i g=(D,11):=by unfold S3;rw[e]
  rw[this]at h;exact h
 |some c=>
  simp only;by_cases p:(D.nod c).par= -1
  .rw[Tp p];have:V3 D i g=(D,10):=by unfold V3;rw[e];simp only;rw[Tp p]
   rw[this]at h;exact h
  rw[Tn p];exact h
def ud :uf:=by
 unfold uf;rintro L F c0 c1 c2 c3 c4 c5 c6 c7 i g ⟨ui,ug,D,K,q,y,w,hq,hK⟩;have vl:=y.vld.2 ⟨q,hq⟩;obtain⟨s,s1,s2,s3,_⟩:=UW hq;refine ndi ⟨ui,ug,y.len w⟩ λr hr=>?_;have hr:r=if t9 L i g=true then i else-1:=hr
 rw[Tp vl]at hr;subst hr;subst s3;obtain⟨W,_,_,_,Y,_⟩:=J9 y.1 s1 s2;have hn:D.nod q=s.n:=UZ s1;have p:cL L q 10=(D.nod q).ch.map z5:=by rw[Y,hn]
 generalize B:cL L (q:Int) 10=X at p⊢;refine ndi (by omega) (ndi W (ndi ⟨by omega,by omega,λD' d q' h _ _ _ _=>h⟩ λk o F' I J M N O P Q R hI=>?_));obtain⟨k0,k1,hI⟩:=hI;have Z:X.length=(D.nod q).ch.length:=by rw[p,Tm]
 have A:=hI D K q y w ⟨s,s1,s2⟩ p (by omega);have u:(chI D q).length=X.length:=by unfold chI;rw[Tm,Z]
 refine⟨λhk=>?_,λhk=>ndt λD' d q' f w' t c U=>?_⟩
 .have hk:k<X.length:=hk;obtain⟨b,hb⟩:=Sx.get_at (T:=(D.nod q).ch) k0 (by omega);have E:cI X k 0=b:=by rw[p];exact dm hb
  have H:WF (drpL D ((chI D q).take k.toNat)) (K+2*((chI D q).take k.toNat).length):=w.drpL (by rw[TE,u];omega);have lk:((chI D q).take k.toNat).length=k.toNat:=by rw[TE,u];omega
  rw[lk]at H;obtain⟨sb,z,b2,_⟩:=(w.ch q s s1 s2).2 b (by rw[<-hn];exact Td hb);have bl:=(SW.1 z).1;have lim:=w.lim;have ll:(drpL D ((chI D q).take k.toNat)).L.length=D.L.length:=mL;have lL:ln o=D.L.length:=by rw[A.1];simp[ln,ll]
  have hg:∀ {D':DM} {d q':Nat},WF D' d->D'.Us q'->X=(D'.nod q').ch.map z5->d+2*X.length<=1000->Rf (drpL D' ((chI D' q').take k.toNat)) o F' [I,J,M,N,O,P,Q,R]->(drpL D' ((chI D' q').take (k+1).toNat))=(W8 (drpL D' ((chI D' q').take k.toNat)) b (cI o b 0)).1/\cI o b 0=D'.gen b:=λ{D' d q'} w' l a c e=>by
   obtain⟨s',t1,t2⟩:=l;have V:(D'.nod q').ch.length=X.length:=by rw[a,Tm]
   obtain⟨b',j⟩:=Sx.get_at (T:=(D'.nod q').ch) k0 (by omega);have:b'=b:=by have:=E;rw[a,dm j]at this;omega
   subst this;obtain⟨aa,k1,k2,_⟩:=(w'.ch q' s' t1 t2).2 b' (by rw[<-UZ t1];exact Td j);have G:=(SW.1 k1).1;have S:=Me k.toNat (D'.nod q').ch w' (by omega) t1 t2 (congrArg Nod.ch (UZ t1).symm) b' j;have v:(drpL D' ((chI D' q').take k.toNat)).L.length=D'.L.length:=mL;have e0:cI o b' 0=D'.gen b':=by rw[Qy e.1 (Tf (by rw[v];exact G)),<-UY (Tf (by rw[v];exact G))];exact congrArg _ S
   refine⟨?_,e0⟩;have hc:(chI D' q')[k.toNat]? =some ((b':Int),(D'.gen b':Int)):=by unfold chI;rw[TU,j];rfl
   rw[show(k+1).toNat=k.toNat+1 by omega,E1 hc,e0];unfold drpL;rw[List.foldl_append];rfl
  obtain⟨_,eg⟩:=hg w ⟨s,s1,s2⟩ p (by omega) A;have gb:=w.gen sb (Td z);have gen:=UY z;rw[E,Jm (by omega)];refine ndi (by omega) (ndi hk ⟨λh=>by omega,λ_=>ndi (by omega) (ndi (by omega) (ndi ⟨⟨by omega,by omega⟩,⟨by omega,by omega⟩,_,_,A,H,by omega⟩ λL2 F2 e0 e1 e2 e3 e4 e5 e6 e7 h2=>ndi ⟨by omega,by omega⟩ (ndi ⟨by omega,by omega,λD' d q' f w' l a c=>?_⟩ (ndt ?_))))⟩)
  .have e:=hI D' d q' f w' l a c;have m:(chI D' q').length=X.length:=by unfold chI;rw[Tm,a,Tm]
   have x:WF (drpL D' ((chI D' q').take k.toNat)) (d+2*((chI D' q').take k.toNat).length):=w'.drpL (by rw[TE,m];omega);have C:((chI D' q').take k.toNat).length=k.toNat:=by rw[TE,m];omega
   rw[C]at x;rw[(hg w' l a c e).1];exact h2 _ _ e x (by omega)
  show(X.length-(k+1)).toNat<(X.length-k).toNat;omega
 .obtain⟨s',t1,t2,t3,_⟩:=UW t;have:q'=q:=by omega
  subst this;obtain⟨_,_,_,_,m5,_⟩:=J9 f.1 t1 t2;have a:X=(D'.nod q').ch.map z5:=by rw[<-B,m5,UZ t1]
  have h:=hI D' d q' f w' ⟨s',t1,t2⟩ a (by rw[a,Tm];exact c);have hk:¬k<X.length:=hk;have lc:(chI D' q').length=X.length:=by unfold chI;rw[Tm,a,Tm]
  rw[TT (by omega)]at h;unfold fW;rw[t];simp only;rw[Tn (by omega)];exact h
def wl :wq:=by unfold wq;rintro A B ⟨rfl,b,hr⟩;refine⟨λ_=>⟨λ_=>ndi ⟨by omega,by omega⟩ λk hI=>?_,λh=>absurd rfl h⟩,λh=>absurd rfl h⟩;obtain⟨k0,k1⟩:=hI;refine⟨λhk=>?_,λ_=>ndt rfl⟩;have a:k<A.length:=hk;refine ndi (by omega) (ndi hk (ndi (by omega) (ndi hk ⟨λ_=>⟨λ_=>ndi ⟨by omega,by omega⟩ (ndi ⟨by omega,by omega⟩ (ndt ?_)),λh=>absurd rfl h⟩,λh=>absurd rfl h⟩)));show(A.length-(k+1)).toNat<(A.length-k).toNat;omega
section
variable {D :DM}{K q:Nat}{i g:Int}{S N:a8}{fr lv:Int}{cs:Ak}
def Cj (h:RlC D S N fr lv cs):S.length=D.L.length:=by obtain⟨⟨T,M,e,_,a⟩,_⟩:=h;rw[e,Tm,a.len]
def QU (w:WF D K){s:Sl}(hs:D.L[q]? =some s)(us:s.used=true):s.n.ch.length<=D.L.length:=by
 obtain⟨h1,h2⟩:=w.ch q s hs us;have:s.n.ch ⊆ List.range D.L.length:=λj hj=>by obtain⟨sj,k,_⟩:=h2 j hj;exact List.mem_range.2 (SW.1 k).1
 have:=h1.length_le_of_subset this;rwa[List.length_range]at this
def Re (hq:D.at i g=some q):(W8 D i g).2=0:=by
 obtain⟨s,h1,h2,h3,h4⟩:=UW hq;unfold W8;rw[hq];simp only;by_cases p:(D.nod q).par= -1;rw[Tp p];unfold S3;rw[hq];simp only;rw[Tn (λh=>h p)]
 .rw[Tn p];have a:∃p' l,(V3 D i g).1=D.kids p' q l (-1) 4:=by unfold V3;rw[hq];simp only;rw[Tn p];exact⟨_,_,rfl⟩
  obtain⟨p',l,a⟩:=a;have get:∃n:Nod,(D.kids p' q l (-1) 4).L[q]? =some ⟨s.g,true,n⟩/\n.par= -1:=by unfold DM.kids DM.cnt DM.setN;simp only[l8,h1];by_cases e:p'=q<;>simp[e,h2]
  obtain⟨n,k1,k2⟩:=get;have at1:=UX k1 rfl;rw[UY k1]at at1;rw[a];unfold S3;rw[h3,h4,at1];simp only;rw[UZ k1,Tn (λh=>h k2)]
def OJ :(fW D i g).1.L.length=D.L.length:=by unfold fW;split;rfl;split;rfl;exact mL
def WF.clr (w:WF D K)(b:∀q,D.at i g=some q->K+2*(D.nod q).ch.length<=1000){a:Nat}(h:∀q,D.at i g=some q->K+2*(D.nod q).ch.length<=a)(h0:K<=a)(h':a<=1000):WF (fW D i g).1 a:=by unfold fW;split;exact w.mono h0 h';rename_i c e;have:=b c e;have:=h c e;split;exact w.mono h0 h';refine(w.drpL (l:=(D.nod c).ch.map λ(j:Nat)=>((j:Int),(D.gen j:Int))) (by rw[Tm];omega)).mono ?_ h';rw[Tm];omega
end
section
variable {hi hg k fr lv b0 b1 b2 b3 b4 b5 b6 b7 c0 c1 c2 c3 c4 c5 c6 c7:Int}{l m N0 L F H S st N:a8}
def mdr3 (v:U32 hi)(u:U32 hg)(k0:0<=k)(km:k<m.length)(k8:k<8)(hS:S.length<=40)(hB:BI (40+80*k.toNat) L F [b0,b1,b2,b3,b4,b5,b6,b7] H S fr lv [c0,c1,c2,c3,c4,c5,c6,c7] N):fk hi hg L F b0 b1 b2 b3 b4 b5 b6 b7 S false fr lv c0 c1 c2 c3 c4 c5 c6 c7 st N l m N0 k H:=by
 obtain⟨D,d,t,w,hH,lH⟩:=hB;have eS:=Cj t;have i1:I64 (k+1):=⟨by omega,by omega⟩
 have kt:40+80*(k+1).toNat=40+80*k.toNat+80:=by omega
 have inv:∀ {L' F' S' N' st':a8} {e o R T U V W X Y Z z C E G I J M P:Int} {D':DM},Rf D' L' F' [R,T,U,V,W,X,Y,Z]->RlC D' S' N' e o [z,C,E,G,I,J,M,P]->WF D' (40+80*k.toNat+80)->D'.L.length=D.L.length->
   BI (40+80*k.toNat+80) L' F' [R,T,U,V,W,X,Y,Z] H S' e o [z,C,E,G,I,J,M,P] N'/\pA [.l m] (.l N'::.i (k+1)::.l L'::.l F'::J8 R T U V W X Y Z (.l H::.l S'::J10 e o z C E G I J M P [.b false,.l st'])):=λ{L' F' S' N' st' e o R T U V W X Y Z z C E G I J M P D'} h1 h2 h3 h4=>by
  have hb:BI (40+80*k.toNat+80) L' F' [R,T,U,V,W,X,Y,Z] H S' e o [z,C,E,G,I,J,M,P] N':=⟨D',h1,h2,h3,hH,by omega⟩
  exact⟨hb,by omega,by omega,by omega,rfl,by rw[Cj h2,h4,<-eS];exact hS,by rw[kt];exact hb⟩
 have mu:∀ {A B:Ar} {x y:Dat},uK [.l m] (x:: .i (k+1)::A)<uK [.l m] (y:: .i k::B):=λ{A B x y}=>by show(m.length-(k+1)).toNat<(m.length-k).toNat;omega
 have wm:WF D (40+80*k.toNat+80):=w.mono (by omega) (by omega);have zz:¬(false=true):=λh=>by cases h
 unfold fk;refine ndi ⟨v,u,d.len w⟩ λr hr=>?_;have hr:r=if t9 L hi hg=true then hi else-1:=hr
 refine nin (nrn (ndi zz (ndi ⟨v,u,D,_,t.1,w⟩ λO r2 hO=>?_)));have hO:=hO D _ ⟨_,_,t.1⟩ w;cases hq:D.at hi hg with
 |none=>
  rw[hq]at hO;obtain⟨rfl,rfl⟩:=hO;rw[Tn λh=>by obtain⟨c,hc⟩:=d.vld.1 h;rw[hq]at hc;cases hc]at hr;subst hr;refine⟨λ_=>⟨λ_=>⟨λh=>absurd h (by decide),λ_=>?_⟩,λh=>absurd rfl h⟩,λh=>absurd (by decide) h⟩;refine nin (nrn (ndi zz (ndi ⟨v,u,D,_,t,w,by omega⟩ λr3 S1 ab ad z C E G I J M P p N1 hD=>?_)));obtain⟨a,rfl⟩:=hD.2 D _ t w (by omega);have ed:W8 D hi hg=(D,11):=by unfold W8;rw[hq]
  rw[ed]at a⊢;refine⟨λ_=>?_,λh=>absurd rfl h⟩;refine nin (nrn (ndi ⟨v,u,D,_,a,w,λc hc=>by rw[hq]at hc;cases hc⟩ λr4 S2 ah ai e0 e1 e2 e3 e4 e5 e6 e7 aj N2 hE=>?_));obtain⟨ac,rfl⟩:=hE.2 D _ a w λc hc=>by rw[hq]at hc;cases hc
  have ec:fW D hi hg=(D,11):=by unfold fW;rw[hq]
  rw[ec]at ac⊢;refine⟨λ_=>?_,λh=>absurd rfl h⟩;unfold jh;exact ndi i1 (nin (nrn (nin (nrn (ndi (inv d ac wm rfl).2 (ndt mu))))))
 |some q=>
  rw[hq]at hO;obtain⟨rfl,rfl⟩:=hO;obtain⟨s,s1,s2,s3,_⟩:=UW hq;rw[Tp (d.vld.2 ⟨q,hq⟩)]at hr;subst hr;obtain⟨l1,l2,_⟩:=J9 d.1 s1 s2;have hn:D.nod q=s.n:=UZ s1;have ae:=QU w s1 s2;have kq:∀c,D.at r hg=some c->40+80*k.toNat+2*(D.nod c).ch.length<=40+80*k.toNat+80:=λc hc=>by rw[hq]at hc;cases hc;rw[hn];omega
  have f:∀c,D.at r hg=some c->40+80*k.toNat+2*(D.nod c).ch.length<=1000:=λc hc=>by have:=kq c hc;omega
  have bl:=rY w s1 s2;refine⟨λh=>by omega,λ_=>⟨λ_=>?_,λh=>absurd rfl h⟩⟩;refine ndi ⟨v,u,D,_,q,d,w,hq⟩ λO' aa=>?_;have aa:=aa D _ q d.1 w hq;refine ndi ⟨aa.symm,by rw[Tm];omega,λx hx=>by obtain⟨j,_,rfl⟩:=Uy.1 hx;exact⟨_,_,rfl⟩⟩ λr5 h5=>⟨λh=>by have h5:r5=1:=h5;omega,λ_=>?_⟩
  refine ndi (by omega) (ndi (by rw[s3];exact l1) (ndi (by omega) (ndi km ⟨λ_=>?_,λ_=>?_⟩)))
  .refine nin (nrn (ndi zz (ndi ⟨v,u,D,_,t,w,f⟩ λr6 S1 ab ad z C E G I J M P p N1 hE=>?_)));obtain⟨a,rfl⟩:=hE.2 D _ t w f;have kind:cI L r 2=s.n.kind:=by rw[s3];exact l2
   by_cases k2:s.n.kind=2
   .have ec:fW D r hg=(D,1):=by unfold fW;rw[hq];simp only;rw[hn,Tp (by omega)]
    rw[ec]at a⊢;refine⟨λ_=>?_,λh=>absurd (kind.trans k2) h⟩;unfold we;refine⟨λ_=>?_,λh=>absurd rfl h⟩;have hI:=inv (st':=p) d a wm rfl;refine ndi (kind.trans k2) (ndi (kind.trans k2) (nin (nrn (nin (nrn (ndi ⟨_,hI.1⟩ λr7 Q=>⟨λh=>by have Q:r7=1:=Q;omega,λ_=>?_⟩))))));unfold jh;exact ndi i1 (nin (nrn (nin (nrn (ndi hI.2 (ndt mu))))))
   .have k1:s.n.kind=1:=by have:=(w.kind q s s1 s2).1;omega
    have ec:(fW D r hg).2=0:=by unfold fW;rw[hq];simp only;rw[hn,Tn (by omega)]
    refine⟨λh=>absurd (kind.symm.trans h) k2,λ_=>ndi (λh=>k2 (kind.symm.trans h)) ⟨λ_=>?_,λh=>absurd ec h⟩⟩;refine ndi (λh=>k2 (kind.symm.trans h)) (ndi ⟨v,u,D,_,q,d,w,hq,f q hq⟩ λL1 F1 R T U V W X Y Z hF=>?_);have hI:=inv (st':=p) (hF D _ q d w hq (f q hq) (by rw[hn];exact k1)) a (w.clr f kq (by omega) (by omega)) OJ;refine nin (nrn (nin (nrn (ndi ⟨_,hI.1⟩ ?_))));unfold jg;exactλr7 Q=>⟨λh=>by have Q:r7=1:=Q;omega,λ_=>ndi i1 (nin (nrn (nin (nrn (ndi hI.2 (ndt mu))))))⟩
  refine nin (nrn (ndi zz (ndi ⟨v,u,D,_,t,w,by omega⟩ λr6 S1 ab ad z C E G I J M P p N1 hE=>?_)));obtain⟨a,rfl⟩:=hE.2 D _ t w (by omega);refine⟨λ_=>?_,λh=>absurd (Re hq) h⟩;refine ndi ⟨v,u,D,_,d,w,by omega⟩ λL1 F1 R T U V W X Y Z hF=>?_;have hI:=inv (st':=p) (hF D _ d w (by omega)) a ((w.drp (by omega)).mono (by omega) (by omega)) Ie;refine nin (nrn (nin (nrn (ndi ⟨_,hI.1⟩ ?_))));unfold jg;exactλr7 Q=>⟨λh=>by have Q:r7=1:=Q;omega,λ_=>ndi i1 (nin (nrn (nin (nrn (ndi hI.2 (ndt mu))))))⟩
def wc :wh:=by
 unfold wh;rintro l m N0 ⟨rfl,hl,hm⟩;refine ndi trivial λL F b0 b1 b2 b3 b4 b5 b6 b7 H S fr lv c0 c1 c2 c3 c4 c5 c6 c7 st hn=>?_;obtain⟨rfl,rfl,rfl,rfl,rfl,rfl,hb,hc⟩:=hn;refine nin<|nrn<|nin<|nrn<|ndi ⟨hl,by omega,by omega,by rw[hb,hc];exact bi0⟩ λr L F b0 b1 b2 b3 b4 b5 b6 b7 H S fr lv c0 c1 c2 c3 c4 c5 c6 c7 st N hr=>?_;obtain⟨r1,c⟩:=hr;have n:S.length<=40:=by obtain⟨D,_,t,w,_⟩:=c;rw[Cj t];exact w.lim.1
 refine⟨λh=>by omega,λ_=>nin<|nrn<|nin<|nrn<|ndi ⟨by omega,by omega,by omega,rfl,n,c⟩ λN k L F b0 b1 b2 b3 b4 b5 b6 b7 H S fr lv c0 c1 c2 c3 c4 c5 c6 c7 z st hI=>?_⟩;obtain⟨k0,k1,A,rfl,n,c⟩:=hI;have e:jf H S false L F b0 b1 b2 b3 b4 b5 b6 b7 fr lv c0 c1 c2 c3 c4 c5 c6 c7 st N l m []:=by unfold jf;refine nin<|nrn<|nin<|nrn<|ndi (λh=>by cases h)<|ndi ⟨_,c⟩ λr hr=>⟨λ_=>ndi rfl λb hb=>ndt (yesB hb),λh=>absurd hr h⟩
 refine⟨λhk=>⟨λd=>?_,λ_=>e⟩,λ_=>e⟩;have hk:k<m.length:=hk;have p:U32 0:=⟨by omega,by omega⟩
 obtain⟨_,h2,_⟩:=It hm k0 hk;have u:HOK H:=by obtain⟨_,_,_,_,h,_⟩:=c;exact h
 refine⟨λh0=>ndi (by omega) (ndi hk ⟨λ_=>?_,λ_=>mdr3 p p k0 hk d n c⟩),λ_=>mdr3 p p k0 hk d n c⟩;have hx:0<=(cI m k 1).tmod (ln H)/\(cI m k 1).tmod (ln H)<ln H:=by have:=Int.tmod_eq_emod_of_nonneg (b:=ln H) h2.1;rw[this];exact⟨Int.emod_nonneg _ (by omega),Int.emod_lt_of_pos _ h0⟩
 have s:U32 (cI H ((cI m k 1).tmod (ln H)) 0)/\U32 (cI H ((cI m k 1).tmod (ln H)) 1):=by
  obtain⟨x,o⟩:=Sx.get_at (T:=H) hx.1 hx.2;obtain⟨a,b,rfl,v,y⟩:=u x (Td o);have cell:∀j,cI H ((cI m k 1).tmod (ln H)) j=(([Dat.i a,.i b]:Ar).getD j (.i 0)).toInt:=λj=>by have:=d9 (f:=id) o j;rw[List.map_id]at this;simp only[cI,this];rfl
  rw[cell,cell];exact⟨v,y⟩
 exact ndi (by omega) (ndi hk (ndi ⟨by have:=h2.1;omega,by have:=h2.2;omega⟩ (ndi (by omega) (ndi (by omega) (ndi hx.2 (ndi hx.2 (mdr3 s.1 s.2 k0 hk d n c)))))))
end
def ND {P:Aw}{U:Ab}{τ:Tau}{F:FB}{s:SS}{hp hp':Hp}(h:SD P U τ F s hp)(hn:hp.nx<=hp'.nx)(hk:∀b,b<hp.nx->hp'.m.get b=hp.m.get b):SD P U τ F s hp':=
 ⟨λb x hb=>by rcases h.live b x hb with⟨i,o,y,h1,h2,h3⟩|h1;exact .inl ⟨i,o,y,h1,by rw[hk i (h.lt b i o h1)];exact h2,h3⟩;exact .inr h1,h.inj,λi b hb=>by rw[hk i (h.flt i b hb)];exact h.frz i b hb,λb i o hb=>TX (h.lt b i o hb) hn,λi b hb=>TX (h.flt i b hb) hn,h.new,h.fc,h.fz⟩
def coE (i g:Int)(S:a8)(fr lv c0 c1 c2 c3 c4 c5 c6 c7:Int)(st N:a8):Au:=[.dat 0 (.i i),.dat 1 (.i g),.dat 2 (.l S),.dat 3 (.i fr),.dat 4 (.i lv),.dat 5 (.i c0),.dat 6 (.i c1),.dat 7 (.i c2),.dat 8 (.i c3),.dat 9 (.i c4),.dat 10 (.i c5),.dat 11 (.i c6),.dat 12 (.i c7),.dat 13 (.l st),.dat 14 (.l N)]
def lkA (j h:Int):As:=[.ptr 2 13 (.int 0) 0,.agg [.int .u32 (.int j),.int .u32 (.int h)]]
variable {i g j h fr lv c0 c1 c2 c3 c4 c5 c6 c7:Int}{S st N:a8}
def Xy {good:SV->List (Nat×Bb B0)->Prop}:(kro PR U0 fq (lkA j h) (gst dx (coE i g S fr lv c0 c1 c2 c3 c4 c5 c6 c7 st N) 15)).vc U0 (λr=>good r.1 r.2.h)=Ni (ln S) (Nr (ln S) (Nd (bI (.i j::.i h::JD S fr lv c0 c1 c2 c3 c4 c5 c6 c7 st N)) (∀(k:Int) (t:Ae) (a:a8) (x:Ae) (c sz:Int) (pn:Bool) (pi pg:Int) (ch:a8) (r:Int),K4 (.i j::.i h::JD S fr lv c0 c1 c2 c3 c4 c5 c6 c7 st N) [.i k,.s t,.l a,.s x,.i c,.i sz,.b pn,.i pi,.i pg,.l ch,.i r]->good (.tup [.agg [.int .u8 (.dat 15 (.i k)),.str (.dat 16 (.s t)),.lst rV (.dat 17 (.l a)) true,.str (.dat 18 (.s x)),.int .i64 (.dat 19 (.i c)),.int .i64 (.dat 20 (.i sz)),.bool (.dat 21 (.b pn)),.int .u32 (.dat 22 (.i pi)),.int .u32 (.dat 23 (.i pg)),.lst tHd (.dat 24 (.l ch)) true],.int .i64 (.dat 25 (.i r))]) ((5,none)::(gst dx (coE i g S fr lv c0 c1 c2 c3 c4 c5 c6 c7 st N) 15).h)))):=by kernel_rfl
end Go.D
namespace Go.D
open Go Go.Xe Go.Sx
def zJ :kf PR tHd=[.int .u32,.int .u32]:=by kernel_rfl
variable {v:Av}
def Nc {F:FB}{n:Int}(h:PV PR F (.int .u32) v (.i n)):v= .int .u32 n:=by cases h;rfl
def RR {F:FB}{D:DM}{l:Ah}(h:PV PR F (.sl tHd) v (.l (l.map (B2 D.gen)))):∃q c,v= .slice q l.length c/\HSl D l q λH B=>F H=some B:=by
 generalize hL:l.map (B2 D.gen)=L at h;have a:L.length=l.length:=by rw[<-hL];simp
 cases h with
 |nils=>exact⟨_,_,by rw[<-a];rfl,λj x hj=>by have:=(SW.1 hj).1;simp only[UR]at a;omega⟩|vague=>exact⟨_,_,by rw[<-a];rfl,λj x hj=>by have:=(SW.1 hj).1;simp only[UR]at a;omega⟩|sl e i o c b cs n z r x hF hb hc hn hz hr hx hp=>
  have p:z=2:=by rw[hz,zJ];rfl
  subst p;refine⟨_,_,by rw[a],λj y hj=>?_⟩;have G:=(SW.1 hj).1;have f:L[j]? =some (B2 D.gen y):=by rw[<-hL];simp[hj]
  have E:(j+1)*2<=L.length*2:=Tg _ (by omega);have m:∀k d kd,(B2 D.gen y)[k]? =some d->(kf PR tHd)[k]? =some kd->cs.get (o+j*2+k)=some (x j k)/\PV PR F kd (x j k) d:=λk d kd s hk=>⟨hx j k _ d f s,hp j k _ kd d f s hk⟩
  obtain⟨t,b0⟩:=m 0 _ (.int .u32) rfl (by rw[zJ];rfl);obtain⟨w,A⟩:=m 1 _ (.int .u32) rfl (by rw[zJ];rfl);refine⟨i,o,b,cs,n,_,rfl,hF,hb,by omega,?_⟩;have e0:x j 0= .int .u32 y:=Nc b0;have C:x j 1= .int .u32 (D.gen y):=Nc A;exact A9 (vs:=hv D y) λq hq=>by
   match q,hq with
   |0,_=>rw[t,e0];rfl|1,_=>rw[w,C];rfl
def XE {α:Type}{l:List α}(h:l.length=10):∃a b c d e f g i j k,l=[a,b,c,d,e,f,g,i,j,k]:=by
 match l,h with
 | [a,b,c,d,e,f,g,i,j,k],_=>exact⟨a,b,c,d,e,f,g,i,j,k,rfl⟩
def lkG (L:a8)(h0:List (Nat×Bb B0))(a:SV)(hh:List (Nat×Bb B0)):Prop:=(∃(k:Int) (t:Ae) (a0:a8) (x:Ae) (tp sz:Int) (pn:Bool) (pi pg:Int) (r:Int),a= .tup [.agg [.int .u8 (.dat 15 (.i k)),.str (.dat 16 (.s t)),.lst rV (.dat 17 (.l a0)) true,.str (.dat 18 (.s x)),.int .i64 (.dat 19 (.i tp)),.int .i64 (.dat 20 (.i sz)),.bool (.dat 21 (.b pn)),.int .u32 (.dat 22 (.i pi)),.int .u32 (.dat 23 (.i pg)),.lst tHd (.dat 24 (.l L)) true],.int .i64 (.dat 25 (.i r))])/\hh=h0
section
variable {ov :Aa}{i g fr lv c0 c1 c2 c3 c4 c5 c6 c7:Int}{S st N:a8}{τ:Tau}{F:FB}{hp0:Hp}{u:Av}{D:DM}{K:Nat}
def PE {j k m n o p s t y e a:E}{v:Av}(h:VD PR U0 τ F (.tup [.agg [.int .u8 j,.str k,.lst rV m true,.str n,.int .i64 o,.int .i64 p,.bool s,.int .u32 t,.int .u32 y,.lst tHd e true],.int .i64 a]) v):∃vs:Af,∃r,v= .tuple [.agg vs.toArray,r].toArray/\vs.length=10/\vs.all Value.oneCell'=true/\ ∃f,vs[9]? =some f/\PV PR F (.sl tHd) f (.l (e.toR U0)):=by
 cases h with
 |tup l xs h1 h2=>
 match xs,h1,h2 with
 | [x,r],_,h2=>
 have w:=h2 0 _ _ rfl rfl;cases w with
 |agg l xs h1 h3=>
 obtain⟨x0,M,O,P,Q,R,T,U,V,L,rfl⟩:=XE (show xs.length=10 from h1.symm);refine⟨_,r,rfl,rfl,?_,L,rfl,?_⟩
 .have w0:=h3 0 _ _ rfl rfl;have z:=h3 1 _ _ rfl rfl;have A:=h3 2 _ _ rfl rfl;have B:=h3 3 _ _ rfl rfl;have C:=h3 4 _ _ rfl rfl;have G:=h3 5 _ _ rfl rfl;have H:=h3 6 _ _ rfl rfl;have I:=h3 7 _ _ rfl rfl;have J:=h3 8 _ _ rfl rfl;have d:=h3 9 _ _ rfl rfl;cases w0;cases z;cases B;cases C;cases G;cases H;cases I;cases J;cases A with
  |lst _ _ _ _ p2 _=>
  cases d with
  |lst _ _ _ _ b _=>
  obtain⟨q,c,rfl⟩:=Cc p2;obtain⟨q',c',rfl⟩:=Cc b;rfl
 .have d:=h3 9 _ _ rfl rfl;cases d with
  |lst _ _ _ _ b _=>exact b
def Pa (hL:RRO PR U0 ov fq lkF)(hs:SD PR U0 τ F (gst dx (coE i g S fr lv c0 c1 c2 c3 c4 c5 c6 c7 st N) 15) hp0)(hu:VD PR U0 τ F (.ptr 2 13 (.int 0) 0) u)(w:WF D K)(G:Rl D.gen D S N fr lv):Bf ov D hp0.nx hp0.m.get u:=by
 intro c s hp hc us hn hk;have hs1:=ND hs hn hk;have lim:=w.lim;have Z:=(SW.1 hc).1;have hg:=w.gen s (Td hc);have eg:=UY hc;have A:D.at c (D.gen c)=some c:=UX hc us;have L:=G.vld.2 ⟨c,A⟩;have hx:VDL PR U0 τ F (lkA c (D.gen c)) [u,.agg (hv D c).toArray]:= .cons hu (.cons (.agg _ _ rfl λq a x e hx=>by
  match q,e,hx with
  |0,e,hx=>cases e;cases hx;exact .int _ _
  |1,e,hx=>cases e;cases hx;exact .int _ _
  |q+2,e,hx=>simp at e) VM)
 obtain⟨a,s',Y,τ',F',hp',ex,C,v,B,J⟩:=G7 hL (lkA c (D.gen c)) _ τ F _ hp hx hs1 (λr=>lkG (s.n.ch.map (B2 D.gen)) ((5,none)::(gst dx (coE i g S fr lv c0 c1 c2 c3 c4 c5 c6 c7 st N) 15).h) r.1 r.2.h) (by
  rw[Xy (good:=lkG (s.n.ch.map (B2 D.gen)) ((5,none)::(gst dx (coE i g S fr lv c0 c1 c2 c3 c4 c5 c6 c7 st N) 15).h))];refine nin (nrn (ndi ⟨⟨by omega,by omega⟩,⟨by omega,by omega⟩,D,K,G,w⟩ λk t a x P sz pn pi pg ch r hL=>⟨⟨k,t,a,x,P,sz,pn,pi,pg,r,?_⟩,rfl⟩));have hL:if t9 S c (D.gen c)=true then _ else r=11:=hL
  rw[Tp L]at hL;obtain⟨_,_,_,_,_,_,_,_,_,W,_⟩:=hL;obtain⟨s2,k1,_,_,_,_,_,_,_,_,_,k9⟩:=G.flds A;rw[hc]at k1;cases k1;rw[W,k9]) hs1
 obtain⟨⟨k,t,a0,x,P,sz,pn,pi,pg,r,rfl⟩,hh⟩:=Y;obtain⟨vs,r,rfl,M,ho,v9,X,f⟩:=PE J;have f:PV PR F' (.sl tHd) v9 (.l (s.n.ch.map (B2 D.gen))):=f;obtain⟨q,cc,rfl,I⟩:=RR f;obtain⟨l,O,Q,R,T,_⟩:=ex.hh;have hl:l=[(5,none)]:=by rw[hh]at O;exact(List.append_cancel_right (show [(5,none)]++_=l++_ from O)).symm
 have d:∀b x,(gst dx (coE i g S fr lv c0 c1 c2 c3 c4 c5 c6 c7 st N) 15).get b=some x->b∈l.map Prod.fst->False:=λb x hb hm=>by have hlt:b<5:=hs1.bound hb;rw[hl]at hm;simp at hm;omega
 refine⟨hp',vs,r,q,cc,B,ex.nx,λb hb=>Q b hb λb' x o h _ hm=>d b' x h hm,M,ho,X,λj y hj=>?_⟩;obtain⟨p,oc,z,dc,nc,zc,U,E,V⟩:=I j y hj;refine⟨p,oc,z,dc,nc,zc,U,⟨C.frz p z E,C.flt p z E,?_⟩,V⟩;by_cases hi:hp.nx<=p;exact .inr hi
 .refine .inl ?_;rcases T p z (by omega) E with h| ⟨b,o,h1,h2⟩;exact hs.flt p z h
  .rw[hl]at h2;have H:b=5:=by simpa using h2
   subst H;rcases R 5 p o (Tq 5) h1 with h| ⟨b0,x,o0,k1,_,k3⟩;omega;exact(d b0 x k1 k3).elim
end
end Go.D
namespace Go.D
open Go Go.Xe Go.Sx
def i64 (n:Int):Av:= .int .i64 n
section
variable {ov :Aa}{hp hp':Hp}{tm:Ao}{x y t i o n e z:Nat}{cs:Ao}{vs:Af}{v a:Av}
end
section
variable {ov :Aa}{hp hp1:Hp}{tm:Ao}{ws:Af}{b b2 b5:Nat}{Q:Ao->Hp->Prop}{cs:Ao}{ar:Ai}
end
def aL (n:c9):Nat:=n.a.length
mutual
def Lu :∀s:c9,((MT s).map aL).sum=Jw s
 | .mk k t y a x c=>by simp only[MT,TV,List.sum_cons,Jw,attNs_pre c];rfl
def attNs_pre :∀l:List c9,((preL l).map aL).sum=attNs l
 | []=>rfl|s::l=>by simp only[preL,TQ,List.sum_append,attNs,Lu s,attNs_pre l]
end
mutual
def OF :∀s:c9,U7 s->Jw s<=8*s.size
 | .mk k t y a x c,h=>by
  unfold U7 at h;have b:a.length<=8:=by rcases h.1 with h|h;have:a=[]:=h.2.2.2.2.1;simp[this];exact h.2.2.2.2.1
  have:=attNs_le c h.2;simp only[Jw,c9.size];omega
def attNs_le :∀l:List c9,AllAs l->attNs l<=8*c9.sizes l
 | [],_=>by simp[attNs]|s::l,h=>by unfold AllAs at h;have:=OF s h.1;have:=attNs_le l h.2;simp only[attNs,c9.sizes];omega
end
section
variable {ov :Aa}{s:c9}{F:FB}{j b5 db:Nat}{hp2:Hp}{tms:Ao}
end
section
variable {ov :Aa}{F:FB}{hp:Hp}{s:c9}{ws:Af}
end
section
variable {τ :Tau}{F:FB}{s:SS}{bl:Ah}
end
variable {ov :Aa}
end Go.D
namespace Go.D
open Go Go.Xe Go.Sx
section
variable {i g fr lv c0 c1 c2 c3 c4 c5 c6 c7:Int}{S st N:a8}
def Yy :(gst dx (coE i g S fr lv c0 c1 c2 c3 c4 c5 c6 c7 st N) 15).get 0=some (.cells [.int .u32 (.dat 0 (.i i)),.int .u32 (.dat 1 (.i g))] tHd 2):=by kernel_rfl
def Yx :(gst dx (coE i g S fr lv c0 c1 c2 c3 c4 c5 c6 c7 st N) 15).get 1=some (.cells [.ptr 2 13 (.int 0) 0] tDp 1):=by kernel_rfl
def Yz :fB dx (coE i g S fr lv c0 c1 c2 c3 c4 c5 c6 c7 st N)=[.fn (.func bF) [] [.ptr 0 2 (.int 0) 0,.ptr 1 1 (.int 0) 0]]:=by kernel_rfl
end
section
variable {τ :Tau}{F:FB}{s:SS}{bl:Ah}
def OZ {t:Ax}{e:E}:LOK PR U0 bl τ F s (.g (.lst t)) (.lst t e false) (some e,none):=by
 refine⟨λso h=>⟨e,rfl⟩,λh=>(by cases h),λ_=>rfl,λu b τ2 num nb d _ a _=>?_,λh=>absurd rfl h⟩;have h:e.toR U0=d.toR U0:=a e .l rfl rfl;cases b with
 |lst _ _ _ _ hp _=>rw[h]at hp;exact .lst _ _ _ _ hp (λh=>by cases h)
end
variable {v:Av}
def Ol {τ:Tau}{F:FB}{b z:Nat}(h:VD PR U0 τ F (.ptr b z (.int 0) 0) v):∃i o,v= .pointer (some ⟨i,o,none⟩)/\τ b=some (some (i,o)):=by
 cases h with
 |ptr _ _ _ _ i o h h0=>exact⟨i,o,by rw[show o+(E.int 0).toN U0*z+0=o by show o+0*z+0=o;omega],h⟩
def FZ {D:DM}:∀ {l:Ah} {r k y:Nat},l[r]? =some y->k<2->(l.flatMap (hv D))[r*2+k]? =(hv D y)[k]?
 | [],r,k,y,h,_=>by simp at h|a::l,0,k,y,h,hk=>by simp at h;subst h;rw[List.flatMap_cons,Tc (by rw[Gg];omega)];congr 1;omega|a::l,r+1,k,y,h,hk=>by rw[List.flatMap_cons,Tb (by rw[Gg];omega),Gg,show(r+1)*2+k-2=r*2+k by omega];exact FZ (by simpa using h) hk
variable {D:DM}
def RT {F:FB}{hp:FB}{l:Ah}{q:Ai}(h:SlK hp v l.length (l.flatMap (hv D)) q)(hl:l.length<=67108864)(hF:∀r,q=some r->F r=hp r):PV PR F (.sl tHd) v (.l (l.map (B2 D.gen))):=by
 rcases h with⟨h1,rfl,_,_⟩| ⟨h1,r,c,rfl,h3,h4,p⟩;rw[List.length_eq_zero_iff.1 h1];exact .nils _
 .obtain⟨u,t⟩:=m9 h4;have m:=PV.sl (P:=PR) (F:=F) tHd r 0 (d8 l.length 0) (.cells c (l.length*2) tHn 2) c (l.length*2) 2 (zb:=2) (l.map (B2 D.gen)) (λa k=>((l.flatMap (hv D))[a*2+k]?).getD undef) ((hF r p).trans h3) rfl ⟨.inr ⟨l.length,rfl,hl,by rw[Tm];exact hl⟩,roC.mk⟩ (by rw[Tm];omega) (by rw[zJ];rfl)
   (λx hx=>by obtain⟨y,_,rfl⟩:=Uy.1 hx;rfl)
   (λa k row d hr e=>by
    obtain⟨y,hy,rfl⟩:=Uy.1 (Td hr);have b:a<l.length:=by have:=(SW.1 hr).1;rwa[Tm]at this
    have hk:k<2:=(SW.1 e).1;have n:=FZ (D:=D) (Tf b) hk;have o:=t (a*2+k) (by omega);show c.get (0+a*2+k)=some (((l.flatMap (hv D))[a*2+k]?).getD undef);rw[show 0+a*2+k=0+(a*2+k) by omega,<-o,n,Tf (show k<(hv D l[a]).length from hk)];rfl)
   (λa k row kd d hr e hk=>by
    have b:a<l.length:=by have:=(SW.1 hr).1;rwa[Tm]at this
    have f:k<2:=by have:=(SW.1 hk).1;rwa[zJ]at this
    have j:row=B2 D.gen l[a]:=by rw[TU,Tf b]at hr;simpa using hr.symm
    subst j;rw[zJ]at hk;show PV PR F kd (((l.flatMap (hv D))[a*2+k]?).getD undef) d;rw[FZ (Tf b) f]
    match k,f,e,hk with
    |0,_,e,hk=>cases e;cases hk;exact .int _ _
    |1,_,e,hk=>cases e;cases hk;exact .int _ _)
  rwa[Tm]at m
def QQ {K c:Nat}{s:Sl}(w:WF D K)(hs:D.L[c]? =some s)(us:s.used=true):(bel D 1001 c).length<=1000:=by
 have:bel D 1001 c ⊆ List.range D.L.length:=λj hj=>by obtain⟨_,sj,k,_⟩:=J0 w hs us j hj;exact List.mem_range.2 (SW.1 k).1
 have:=(K1 w hs us (f:=1001)).length_le_of_subset this;have:=w.lim;simp at*;omega
def HW {D':DM}{S N:a8}{fr lv h l:Int}{K p:Nat}(o:Rl D.gen D S N fr lv)(d:Rl D'.gen D' S N h l)(w:WF D K)(w':WF D' p):∀(f c:Nat) (s:Sl),D.L[c]? =some s->s.used=true->D'.gen c=D.gen c/\bel D' f c=bel D f c:=by
 have b:∀(c:Nat) (s:Sl),D.L[c]? =some s->s.used=true->D'.at c (D.gen c)=some c:=λc s hs us=>by obtain⟨k,hk⟩:=d.vld.1 (o.vld.2 ⟨c,UX hs us⟩);obtain⟨_,_,_,e,_⟩:=UW hk;rw[hk];congr 1;omega
 have a:∀(c:Nat) (s:Sl),D.L[c]? =some s->s.used=true->D'.gen c=D.gen c:=λc s hs us=>by obtain⟨s',h1,_,_,h4⟩:=UW (b c s hs us);rw[UY h1];omega
 intro f;induction f with
 |zero=>exactλc s hs us=>⟨a c s hs us,rfl⟩
 |succ f y=>
  intro c s hs us;refine⟨a c s hs us,?_⟩;obtain⟨s1,m,_,q,_,_,_,_,_,_,_,t⟩:=o.flds (UX hs us);obtain⟨s2,z,_,u,_,_,_,_,_,_,_,x⟩:=d.flds (b c s hs us);rw[hs]at m;cases m;have e:s2.n.ch=s.n.ch:=by have:=congrArg (List.map λr:Ar=>(r.getD 0 (.i 0)).toInt.toNat) (x.symm.trans t);simpa [List.map_map,Function.comp_def,B2,Dat.toInt]using this
  unfold bel;rw[q,u,e];congr 1;rw[List.flatMap_def,List.flatMap_def];congr 1;refine List.map_congr_left λj hj=>?_;obtain⟨sj,k1,k2,_⟩:=(w.ch c s hs us).2 j hj;exact(y j sj k1 k2).2
def XD {α:Type}{l:List α}(h:l.length=15):∃a b c d e f g i j k m n o p q,l=[a,b,c,d,e,f,g,i,j,k,m,n,o,p,q]:=by
 match l,h with
 | [a,b,c,d,e,f,g,i,j,k,m,n,o,p,q],_=>exact⟨a,b,c,d,e,f,g,i,j,k,m,n,o,p,q,rfl⟩
variable {ov :Aa}
def Xr (W:Xe.isT (ov oF)=false)(X:Xe.isT (ov sF)=false)(U:Xe.isT (ov bF)=false)(V:Xe.isT (ov bG)=false)(hL:RRO PR U0 ov fq lkF):RRO PR U0 ov dx oF:=by
 intro es A B τ F hp xs hs hx;obtain⟨C,G,I,J,L,M,O,P,Q,R,d,j,k,n,o,rfl⟩:=XD (show es.length=15 from A);obtain⟨ui,ug,⟨D,K,H,w⟩,Z⟩:=(show FY [.i (C.toI U0),.i (G.toI U0),.l (I.toR U0),.i (J.toI U0),.i (L.toI U0),.i (M.toI U0),.i (O.toI U0),.i (P.toI U0),.i (Q.toI U0),.i (R.toI U0),.i (d.toI U0),.i (j.toI U0),.i (k.toI U0),.l (n.toR U0),.l (o.toR U0)]from B)
 have hs:SD PR U0 τ F (gst dx (coE (C.toI U0) (G.toI U0) (I.toR U0) (J.toI U0) (L.toI U0) (M.toI U0) (O.toI U0) (P.toI U0) (Q.toI U0) (R.toI U0) (d.toI U0) (j.toI U0) (k.toI U0) (n.toR U0) (o.toR U0)) 15) hp:=hs;have hx:VDL PR U0 τ F (fB dx (coE (C.toI U0) (G.toI U0) (I.toR U0) (J.toI U0) (L.toI U0) (M.toI U0) (O.toI U0) (P.toI U0) (Q.toI U0) (R.toI U0) (d.toI U0) (j.toI U0) (k.toI U0) (n.toR U0) (o.toR U0))) xs:=hx;rw[Yz]at hx;obtain⟨v0,ac,rfl,w0,hx⟩:=VDL.uncons hx;have aa:ac=[]:=SZ hx.1.symm;subst aa;cases w0 with
 |fn f l m ys zs h1 h2 h3 h4=>
 have ab:ys=[]:=SZ h1.symm;subst ab
 match zs,h3,h4 with
 | [p0, p1], _, h4 =>
 obtain⟨b,oq,rfl,tb⟩:=Ol (h4 0 _ _ rfl rfl);obtain⟨bd,od,rfl,td⟩:=Ol (h4 1 _ _ rfl rfl);rcases hs.live 0 _ Yy with⟨b',ai,y0,t0,m0,_,cs,nb,rfl,n0,g0⟩| ⟨_,_,_,_,_,h,_⟩;case inr=>cases h
 rw[tb]at t0;cases t0;rcases hs.live 1 _ Yx with⟨ad,aj,y1,t1,m1,_,cd,nd,rfl,n1,g1⟩| ⟨_,_,_,_,_,h,_⟩;case inr=>cases h
 rw[td]at t1;cases t1;obtain⟨x0,k0,w0⟩:=g0 0 _ rfl;obtain⟨x1,k1,w1⟩:=g0 1 _ rfl;obtain⟨u,ku,wu⟩:=g1 0 _ rfl;cases w0;cases w1;obtain⟨i',o',hu,_⟩:=Ol wu;obtain⟨c,hc⟩:=H.vld.1 Z;obtain⟨s,s1,s2,s3,s4⟩:=UW hc;have eg:=UY s1;have e0:E.toI U0 (.dat 0 (.i (C.toI U0)))=c:=s3;have e1:E.toI U0 (.dat 1 (.i (G.toI U0)))=D.gen c:=by rw[eg];exact s4
 rw[e0]at k0;rw[e1]at k1;have hl:j7 cs oq 2=some (hv D c):=A9 (vs:=hv D c) λq hq=>by
  match q,hq with
  |0,_=>exact k0|1,_=>exact k1
 have bl:=QQ w s1 s2;have hB:=QP U V w (Pa hL hs wu w H) hu s1 s2;obtain⟨v,hp1,X1,C1⟩:=Pw X hB (by omega) m0 n0 hl (hs.lt _ _ _ tb) m1 n1 ku (hs.lt _ _ _ td);obtain⟨hp',X2,c1,c2,q,c3,c4⟩:=OK W X1 C1;let F':FB:=λb=>if q=some b then hp'.m.get b else F b
 have z:∀r,r<hp.nx->F' r=F r:=λr hr=>Tn λe=>by have:=(c4 r e).1;omega
 have t:FH F' hp':=λr y h=>by by_cases e:q=some r;exact⟨(Tp e).symm.trans h,(c4 r e).2⟩;have h:F r=some y:=(Tn e).symm.trans h;have:=hs.flt r y h;exact⟨by rw[c2 r this];exact hs.frz r y h,by omega⟩
 have Y:PV PR F' (.sl tHd) v (.l ((bel D 1001 c).map (B2 D.gen))):=RT c3 (by omega) λr e=>Tp e;refine⟨v,F',hp',[.dat 0 (.l ((bel D 1001 c).map (B2 D.gen)))],λ_=>none,⟨[],0,[],0,[]⟩,[.lst tHd (.dat 0 (.l ((bel D 1001 c).map (B2 D.gen)))) false],[v],[],X2,c1,λr y h=>by rw[z r (hs.flt r y h)];exact h,t,c2,λr y hr h=>by rw[<-z r hr];exact h,rfl,?_,SD.empty t 0,⟨_,_,[],rfl,rfl,OZ,rfl,rfl⟩,.cons (.lst _ _ _ _ Y λh=>by cases h) VM,λb hb=>by simp at hb,rfl,rfl,λτ2 ws hw=>?_⟩
 .intro D' K' c' a w' T;obtain⟨ae,ah,a⟩:=a;have ec:c'=c:=by obtain⟨_,_,_,e,_⟩:=UW T;omega
  rw[ec,(HW H a w w' 1001 c s s1 s2).2];refine List.map_congr_left λy hy=>?_;obtain⟨_,sy,k1,k2⟩:=J0 w s1 s2 y hy;show [Dat.i y,.i (D.gen y)]=[Dat.i y,.i (D'.gen y)]
  rw[(HW H a w w' 0 y sy k1 k2).1]
 .obtain⟨x,p,rfl,hx,hn⟩:∃x p,ws=x::p/\VD PR U0 τ2 F' x v/\p=[]:=by
   match ws,hw with
   | [x],hw=>exact⟨x,[],rfl,hw.2 0 _ _ rfl rfl,rfl⟩
  exact hx
open Go Go.Xe Go.Sx
def xj :Prop:=
 ∀d f a g h j k m o p q r t u v,Gd (.i d::.i f::JD a g h j k m o p q r t u v)->Ni (ln a) (Nr (ln a)<|Nd (bI (.i d::.i f::JD a g h j k m o p q r t u v))<|∀x y z A B C D F G H w,K4 (.i d::.i f::JD a g h j k m o p q r t u v) [.i x,.s y,.l z,.s A,.i B,.i C,.b D,.i F,.i G,.l H,.i w]->((w=0->Ni (ln a) (Nr (ln a)<|Nd (FY (.i d::.i f::JD a g h j k m o p q r t u v))<|∀c,LH (.i d::.i f::JD a g h j k m o p q r t u v) [.l c]->Nd (¬ln c<0) (Ni (ln c)<|Ni (ln c)<|Nd (0<ln c)<|Nr (ln c)<|Nr (ln c)<|Nd (BC (.i d::.i f::JD a g h j k m o p q r t u v) [.l c,.i 0]) True)))/\(¬w=0->Nd (BC (.i d::.i f::JD a g h j k m o p q r t u v) [.l [],.i w]) True)))
def xh :kr WL Lg (PA 0) (Iv 0) 13=xj:=by kernel_rfl
