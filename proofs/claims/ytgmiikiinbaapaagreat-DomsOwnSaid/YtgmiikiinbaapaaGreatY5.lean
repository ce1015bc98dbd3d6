/- Both DOMs are the same: the condition of Same holds.
  Conditions: none. -/
import Derived.Test.YtgmiikiinbaapaaGreatY2
import Derived.Test.YtgmiikiinbaapaaGreatX3
set_option linter.all false
noncomputable section
namespace Go.D
open Go Go.Xe Go.Sx
def tZ {L:Sx.Rows}{c:Nat}:fG L (c+1)=fG L c++if cB L c 1=true/\cI L c 9<0 then [c]else []:=by unfold fG;rw[List.range_succ,List.filter_append];congr 1;by_cases h:cB L c 1=true/\cI L c 9<0;rw[PG h];simp[h.1,h.2];rw[PE h];rw[List.filter_cons_of_neg];rfl;simpa [Pk]using fun h1=>(not_and.1 h) h1
def vcSme_ok :vcSme:=by
 unfold vcSme;intro L F b0 B C X Y Z b6 b7 H S fr lv c0 c1 c2 c3 c4 c5 c6 c7 st N h;obtain⟨K,D,i,z,w,hH,lH⟩:=h;have P:=i.len w;have lS:=z.1.slen w;have lim:=w.lim;have ec:=i.2.2.trans z.2.symm;simp only[QE,QH]at ec;obtain⟨rfl,rfl,rfl,rfl,rfl,rfl,rfl,rfl⟩:=ec;have cnt:b0=B-C/\I64 (B-C):=by obtain⟨a,b,c,d,e,f,h',h1,h2,h3,h4⟩:=w.cnt;have hc:=i.2.2;rw[h1]at hc;simp only[QE,QH]at hc;simp only[List.forall_mem_cons]at h4;unfold I64;omega
 refine⟨fun _=>⟨fun _=>⟨fun _=>⟨fun _=>⟨fun _=>⟨fun _=>⟨fun _=>⟨fun _=>ndi cnt.2 ⟨fun _=>ndi ⟨by omega,by omega,by simp,rfl⟩ fun k O hI=>?_,fun h=>absurd cnt.1 h⟩,fun h=>absurd rfl h⟩,fun h=>absurd rfl h⟩,fun h=>absurd rfl h⟩,fun h=>absurd rfl h⟩,fun h=>absurd rfl h⟩,fun h=>absurd rfl h⟩,fun h=>absurd rfl h⟩,fun h=>absurd rfl h⟩;obtain⟨k0,k1,lO,hO⟩:=hI;have ay:ln O=(O.length:Int):=rfl;have ax:ln L=(L.length:Int):=rfl;refine⟨fun hk=>⟨fun h=>absurd h (by omega),fun kn=>?_⟩,fun hk=>?_⟩
 ·obtain⟨c,rfl⟩:∃c:Nat,k=c:=⟨k.toNat,by omega⟩
  rw[Qd]at hO;have wr:IntKind.wrap .u32 (c:Int)=c:=M9 (by simp[IntKind.min,IntKind.signed]) (by simp[IntKind.max,IntKind.signed,IntKind.bits];omega);have ao:c<D.L.length:=by have:=congrArg List.length i.1;rw[PD]at this;omega
  have hs:D.L[c]? =some D.L[c]:=Pw ao;generalize D.L[c]=s at hs;obtain⟨g0,g1,g2,g3⟩:=pC i hs;have gb:=w.gen s (Pv hs);have uc:U32 (c:Int):=by unfold U32;omega
  have ug:U32 (s.g:Int):=by unfold U32;omega
  have U:jC (.int (c:Int)::.int (s.g:Int)::JD S fr lv b0 B C X Y Z b6 b7 st N):=⟨uc,ug,D,K,z.1,w⟩
  have nx:∀m:Sx.Rows,m=(fG L (c+1)).map A5->Sx.Nd (I64 ((c:Int)+1)) (Ni (ln m) (Nr (ln m) (Sx.Nd (fN [.lst L] [.int ((c:Int)+1),.lst m]) (Sx.Nd (dN [.lst L] [.int ((c:Int)+1),.lst m]<dN [.lst L] [.int c,.lst O]) True)))):=fun m h=>by refine ndi (by unfold I64;omega)<|nin<|nrn<|ndi ⟨by omega,by omega,?_,by rw[show((c:Int)+1).toNat=c+1 by omega];exact h⟩ (ndt ?_);rw[h,PD];have:(fG L (c+1)).length<=(List.range (c+1)).length:=List.length_filter_le ..;rw[List.length_range]at this;omega;show(L.length-((c:Int)+1)).toNat<(L.length-(c:Int)).toNat;omega
  have ah:∀m:Sx.Rows,dN [.lst L] [.int (c:Int),.lst m]=dN [.lst L] [.int c,.lst O]:=fun _=>rfl;refine ndi kn<|ndi hk<|nin<|nrn ?_;rw [wr, g0];refine ndi U fun kk t a x tp sz pn pi pg ch r hr=>ndi kn<|ndi hk ⟨fun o=>?_,fun o=>?_⟩
  ·rw[g1]at o;obtain⟨n1,n2,n3,n4,n5,n6,n7,n8,n9,ai,ap,aj,az,aq,n15,ar,au⟩:=yJ i z w hs o;have hr:if v9 S c s.g=true then _ else _:=hr
   rw[PG n2]at hr;obtain⟨rfl,rfl,rfl,rfl,rfl,rfl,rfl,rfl,rfl,rfl,rfl⟩:=hr;have al:=w.atts c s hs o;have ae:=w.kidlen hs o;have J:iS [.lst (cL N (atF S c s.g) 2),.lst (cL L c 4)]:=⟨s.n.atts,s.n.atts,by rw[n7,aj],aj,al.1⟩
   have T:Z8 [.lst (cL N (atF S c s.g) 9),.lst (cL L c 10),.lst L,.lst F,.int b0,.int B,.int C,.int X,.int Y,.int Z,.int b6,.int b7,.lst H,.lst S,.int fr,.int lv,.int b0,.int B,.int C,.int X,.int Y,.int Z,.int b6,.int b7,.lst st,.lst N]:=by refine⟨s.n.ch,aq,n15,fun j hj=>?_,ae,P⟩;obtain⟨sj,G,_⟩:=(w.ch c s hs o).2 j hj;have:=(pC i G).2.2.1;omega
   have V:fR (.int (c:Int)::.int (s.g:Int)::JD S fr lv b0 B C X Y Z b6 b7 st N):=U;have v:Y8 (.lst L::.lst F::J10 b0 B C X Y Z b6 b7 c 6 []):=⟨by omega,by omega,D,K,c,i,w,rfl,s,hs,o⟩
   have ad:∀ {kk:Int} {t y:Str} {a:Sx.Rows} {x:Str} {ch:Sx.Rows} {r:Int},X1 (.int (c:Int)::.int (s.g:Int)::JD S fr lv b0 B C X Y Z b6 b7 st N) [.int kk,.str t,.str y,.lst a,.str x,.lst ch,.int r]-> ∀ {k0:Int} {t0 I:Str} {A:Sx.Rows} {x0:Str} {h0:Sx.Rows},cO (.lst L::.lst F::J10 b0 B C X Y Z b6 b7 c 6 []) [.int k0,.str t0,.str I,.lst A,.str x0,.lst h0]->
     cJ [.int k0,.str t0,.str I,.lst A,.str x0,.lst h0]/\ ∀q,S5 [.int k0,.str t0,.str I,.lst A,.str x0,.lst h0] [.int q]->(q=0->r=0/\uC [.int kk,.str t,.str y,.lst a,.str x,.lst ch,.int k0,.str t0,.str I,.lst A,.str x0,.lst h0]/\ ∀n,fJ [.int kk,.str t,.str y,.lst a,.str x,.lst ch,.int k0,.str t0,.str I,.lst A,.str x0,.lst h0] [.int n]->n=1)/\(¬q=0->r=14):=by
    intro kk t y a x ch r ht k0 t0 I A x0 h0 hq;have M:isT (cX D 6 c) k0 t0 I A x0 h0:=hq D K c i.1 w rfl ⟨s,hs,o⟩;have ht:=ht D K ⟨_,_,z.1⟩ w;rw[n1]at ht;simp only at ht;refine⟨⟨_,M⟩,fun q hq=>?_⟩;obtain⟨G,q2⟩:=hq _ M;refine⟨fun e=>?_,fun e=>ht.2 fun hv=>e (G.2 hv)⟩;have hv:=G.1 e;obtain⟨r0,s',rfl,ac⟩:=ht.1 hv;rw[uT]at ac;exact⟨r0,⟨⟨_,ac⟩,_,M⟩,fun n hn=>(hn _ _ ac M).1 ⟨hv,rfl⟩⟩
   have eqb:((cB N (atF S c s.g) 6)==(cB L c 8))=true:=by rw[ap];simp
   have aw:∀ {x y:Int},x=y-> ∀ {p:Prop},¬x=y->p:=fun h _ h'=>absurd h h';refine ndi kn<|ndi hk ⟨fun hp=>?_,fun hp=>?_⟩
   ·
    obtain⟨e7,e8⟩:=ar hp;have rt:fG L (c+1)=fG L c++ [c]:=by rw[tZ,PG ⟨by rw[g1];exact o,hp⟩]
    have ak:vcSme1 c O L:=by
     unfold vcSme1;have:=nx (O++b8 1 1 [.int (c:Int)]) (by rw[hO,rt,Qj];rfl);have l1:ln (O++b8 1 1 [.int (c:Int)])=ln O+1:=by simp[ln,b8]
     rw[l1]at this;exact this
    refine nin<|ndi (by omega)<|nrn ⟨fun _=>⟨fun _=>⟨fun _=>⟨fun _=>⟨fun _=>⟨fun _=>⟨fun _=>ndi hp ⟨fun _=>⟨fun _=>ndi J fun q hq=>⟨fun e=>?_,fun _=>⟨fun _=>nin<|nrn<|nin<|nrn<|ndi T fun q' u=>⟨fun e=>?_,fun _=>nin<|nrn<|ndi V fun kk t y a x ch r ht=>ndi v ?_⟩,fun h=>absurd rfl h⟩⟩,fun h=>absurd e8 h⟩,fun h=>absurd e7 h⟩,fun h=>absurd eqb h⟩,fun h=>absurd ai h⟩,fun h=>absurd n9 h⟩,fun h=>absurd n8 h⟩,fun h=>absurd n6 h⟩,fun h=>absurd n5 h⟩,fun h=>absurd rfl h⟩;have:=hq.1 n7;omega;have u:q'=1:=u;omega;unfold vcSme2;intro k0 t0 I A x0 h0 M;obtain⟨f1,f2⟩:=ad ht M;refine ndi f1 fun q hq=>?_;obtain⟨f3,f4⟩:=f2 q hq;exact⟨fun e=>⟨fun _=>nin<|nrn<|ndi (f3 e).2.1 fun n hn=>⟨fun e0=>by have:=(f3 e).2.2 n hn;omega,fun _=>ak⟩,fun h=>absurd (f3 e).1 h⟩,fun e=>⟨fun _=>ak,fun h=>absurd (f4 e) h⟩⟩
   ·obtain⟨e1,e2,e7,e8⟩:=au hp;have rt:fG L (c+1)=fG L c:=by rw[tZ,PE fun h=>hp h.2,QX]
    have nx0:=nx O (by rw[rt];exact hO);have av:IntKind.wrap .u32 (cI L c 9)=cI L c 9:=M9 (by simp[IntKind.min,IntKind.signed];omega) (by simp[IntKind.max,IntKind.signed,IntKind.bits];omega);rw[av];refine⟨fun _=>⟨fun _=>⟨fun _=>⟨fun _=>⟨fun _=>⟨fun _=>⟨fun _=>ndi hp<|ndi hp<|ndi e1 ⟨fun _=>⟨fun _=>ndi J fun q hq=>⟨fun e=>?_,fun _=>⟨fun _=>nin<|nrn<|nin<|nrn<|ndi T fun q' u=>⟨fun e=>?_,fun _=>nin<|nrn<|ndi V fun kk t y a x ch r ht=>ndi v ?_⟩,fun h=>absurd rfl h⟩⟩,fun h=>absurd e8 h⟩,fun h=>absurd e7 h⟩,fun h=>absurd eqb h⟩,fun h=>absurd ai h⟩,fun h=>absurd n9 h⟩,fun h=>absurd n8 h⟩,fun h=>absurd n6 h⟩,fun h=>absurd n5 h⟩,fun h=>absurd rfl h⟩;have:=hq.1 n7;omega;have u:q'=1:=u;omega;unfold vcSme3;intro k0 t0 I A x0 h0 M;obtain⟨f1,f2⟩:=ad ht M;refine ndi f1 fun q hq=>?_;obtain⟨f3,f4⟩:=f2 q hq;exact⟨fun e=>⟨fun _=>nin<|nrn<|ndi (f3 e).2.1 fun n hn=>⟨fun e0=>by have:=(f3 e).2.2 n hn;omega,fun _=>nx0⟩,fun h=>absurd (f3 e).1 h⟩,fun e=>⟨fun _=>nx0,fun h=>absurd (f4 e) h⟩⟩
  ·have hn:¬v9 S c s.g=true:=fun hv=>by
    obtain⟨c',an⟩:=z.1.vld.1 hv;obtain⟨s',G,q2,q3,_⟩:=Rr an;have:c=c':=by omega
    subst this;rw[hs]at G;cases G;rw[g1]at o;exact o q2
   have hr:if v9 S c s.g=true then _ else r=11:=hr
   rw[PE hn]at hr;unfold vcSme4;have rt:fG L (c+1)=fG L c:=by rw[tZ,PE fun h=>o h.1,QX]
   exact⟨fun _=>nx O (by rw[rt];exact hO),fun h=>absurd hr h⟩
 ·have ek:k.toNat=L.length:=by omega
  rw[ek]at hO;refine nin<|nrn<|ndi ⟨D,K,z.1,w⟩ fun R E=>?_;have E:R=(hdF S 0).filter (roB S N):=E;rw[Dp i z w]at E;have nz:∀l:Ah,(∀j∈l,j<L.length)->l.length<=1000-> ∀Q:Sx.Rows,Q=l.map (hL' L)-> ∀m:Sx.Rows,m=l.map A5-> ∀d,Z8 (.lst Q:: .lst m:: .lst L::d):=fun l h1 h2 Q h3 m h4 d=>⟨l,h4,h3,h1,h2,P⟩
  have p1:=nz (fG L L.length) (fun j hj=>List.mem_range.1 (List.mem_filter.1 hj).1) (by have:(fG L L.length).length<=(List.range L.length).length:=List.length_filter_le ..;rw[List.length_range]at this;omega) R E O hO;have fl:D.free.length<=1000:=by
   have hs:D.free ⊆ List.range D.L.length:=fun j hj=>by obtain⟨s,h1,_⟩:=w.free.2 j hj;exact List.mem_range.2 (Po.1 h1).1
   have h9:=w.free.1.length_le_of_subset hs;rw[List.length_range]at h9;omega
  refine nin<|nrn<|nin<|nrn<|nin<|nrn<|ndi (p1 _) fun G aa=>nin<|nrn<|ndi ⟨D,K,N,z.1,w⟩ fun W hW=>nin<|nrn<|nin<|nrn<|ndi (nz D.free (fun j hj=>?_) fl W ?_ F i.2.1 _) fun q2 ab=>?_;obtain⟨s,h1,_⟩:=w.free.2 j hj;have:=(Po.1 h1).1;have:=congrArg List.length i.1;rw[PD]at this;omega;have hW:W=waF S 1001 fr:=hW;rw[hW,vH i z w];have aa:G=1:=aa;have ab:q2=1:=ab;subst aa;subst ab;exact ndi (by unfold I64;omega) (ndt rfl)
