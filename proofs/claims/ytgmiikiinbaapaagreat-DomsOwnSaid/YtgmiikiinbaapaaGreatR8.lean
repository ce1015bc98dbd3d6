/- The reference's DOM: the conditions of Create, Apply and Attr hold.
  Conditions: none. -/
import Derived.Test.YtgmiikiinbaapaaGreatR7
set_option linter.all false
noncomputable section
namespace Go.D
open Go Go.Xe Go.Sx
section
variable {D :DM}{L F L' F':Sx.Rows}{i g k:Int}{K c:Nat}{cs cs':Ak}{c0 c1 c2 c3 c4 c5 c6 c7:Int}{t x s:Str}
def crS (L:Sx.Rows)(i g k:Int)(t x:Str):Sx.Rows:=a8 (a8 (a8 (a8 (a8 (a8 (a8 (a8 (a8 (a8 (a8 L i 0 (.int g)) i 1 (.bool true)) i 2 (.int k)) i 3 (.str t)) i 4 (.lst [])) i 5 (.str x)) i 6 (.int 0)) i 7 (.int 0)) i 8 (.bool false)) i 9 (.int (-1))) i 10 (.lst [])
variable {X:List Sl}
def JJ {a b:Nat}{so:Sl}(h:X[a]? =some so)(hg:so.g=b):crS (X.map Sl.row) a b k t x=(X.modify a fun s=>⟨s.g,true,C2 k t x⟩).map Sl.row:=by unfold crS a8;simp only[B2,Qd];apply List.ext_getElem?;intro j;simp only[j9,Qm];by_cases e:a=j;subst e;simp only[QY,h,Qh];congr 1;rw[hg];unfold Sl.row;split<;>rfl;simp[e]
def cI_set0 {a:Nat}{so:Sl}{v:Int}(h:X[a]? =some so):cI (a8 (X.map Sl.row) a 0 (.int v)) a 0=v:=by
 unfold cI z4 a8;have e:((X.map Sl.row).modify a fun r=>r.set 0 (.int v)).getD a []=so.row.set 0 (.int v):=by rw[PP,j9,PG rfl,Qm,h];rfl
 rw[Qd,e];show((so.row.set 0 (.int v)).getD 0 (.int 0)).toInt=v;unfold Sl.row;split<;>rfl
def yF (hk:k=1\/k=2)(ok:¬((k=1/\B1 t=false)\/(k=2/\I0 x=false)))(ht:t=if k=1 then s else [])(hx:x=if k=1 then []else s)(hp:fF L F [c0,c1,c2,c3,c4,c5,c6,c7]):I64 (c0+1)/\I64 (c1+1)/\L.length<=1000/\(0<ln F->0<=cI F 0 0/\cI F 0 0<ln L/\J3 (.lst L::.lst F::J8 c0 c1 c2 c3 c4 c5 c6 c7 [.int k,.str s]) (.lst (crS L (cI F 0 0) (cI L (cI F 0 0) 0) k t x)::.lst (pQ F 1 (ln F+ -1))::J10 (c0+1) (c1+1) c2 c3 c4 c5 c6 c7 (IntKind.wrap .u32 (cI F 0 0)) (cI (a8 L (cI F 0 0) 0 (.int (cI L (cI F 0 0) 0))) (cI F 0 0) 0) [.int 0]))/\(¬0<ln F->J3 (.lst L::.lst F::J8 c0 c1 c2 c3 c4 c5 c6 c7 [.int k,.str s]) (.lst (crS (L++K1) (ln L) (cI (L++K1) (ln L) 0) k t x)::.lst F::J10 (c0+1) (c1+1) c2 c3 c4 c5 c6 c7 (IntKind.wrap .u32 (ln L)) (cI (a8 (L++K1) (ln L) 0 (.int (cI (L++K1) (ln L) 0))) (ln L) 0) [.int 0])):=by
 obtain⟨D,K,d,w⟩:=hp;have lim:=w.lim;have wr:∀a:Nat,a<=1000->IntKind.wrap .u32 (a:Int)=a:=fun a h=>M9 (by simp[IntKind.min,IntKind.signed]) (by simp[IntKind.max,IntKind.signed,IntKind.bits];omega);have cre:∀D:DM,P2 D k (if k=1 then s else []) (if k=1 then []else s)=(((D.take (C2 k t x)).1.cnt 0).cnt 1,((D.take (C2 k t x)).2:Int),((D.take (C2 k t x)).1.gen (D.take (C2 k t x)).2:Int),0):=fun D=>by rw[<-ht,<-hx];unfold P2;rw[PE ok]
 refine⟨w.i64 (k:=0) (by rw[<-d.2.2];rfl),w.i64 (k:=1) (by rw[<-d.2.2];rfl),d.len w,fun hF=>?_,fun hF=>?_⟩
 ·have un:∀ {D K},Rf D L F [c0,c1,c2,c3,c4,c5,c6,c7]->WF D K-> ∃(a:Nat) (l:Ah) (so:Sl),D.free=a::l/\cI F 0 0=a/\pQ F 1 (ln F+ -1)=l.map A5/\D.L[a]? =some so/\cI L a 0=so.g/\(a:Int)<ln L/\a<=1000:=fun{D K} d w=>by
   obtain⟨rfl,rfl,_⟩:=d;have lim:=w.lim;cases e:D.free with
   |nil=>rw[e]at hF;simp[ln]at hF|cons a l=>
    obtain⟨so,h1,h2⟩:=w.free.2 a (by rw[e];exact List.mem_cons_self);have:=(Po.1 h1).1;refine⟨a,l,so,rfl,rfl,?_,h1,?_,by simp[ln];omega,by omega⟩
    ·simp only[pQ,ln,Qn,Qf,PD];have:((((l.length+1:Nat):Int)+ -1)).toNat=l.length:=by omega
     rw[this];show((l.map A5).take l.length)=_;exact Ql (by simp)
    simp only[cI];rw[i4 (by rw[Qd];exact h1),Sl.r0];rfl
  obtain⟨a,l,so,h1,h2,h3,h4,v,y,z⟩:=un d w;rw[h2,h3,v,wr a z];refine⟨by omega,y,fun D K d w=>?_⟩;obtain⟨b,m,f,k1,k2,k3,n,B,E,G⟩:=un d w;have r:b=a:=by omega
  subst r;have u:l=m:=tU (h3.symm.trans k3);subst u;have o:so.g=f.g:=by omega
  show Rf (P2 D k (if k=1 then s else []) (if k=1 then []else s)).1 _ _ _/\(_,_,(0:Int))=(P2 D k (if k=1 then s else []) (if k=1 then []else s)).2;rw[cre D];have gr:D.grow=D:=by unfold DM.grow;rw[PE (by simp[k1])]
  have tk:D.take (C2 k t x)=(⟨D.L.modify b fun s=>⟨s.g,true,C2 k t x⟩,l,D.C⟩,b):=by unfold DM.take;rw[gr,k1]
  obtain⟨rfl,rfl,hc⟩:=d;rw[tk,JJ n o.symm];refine⟨⟨rfl,rfl,?_⟩,?_⟩;show _=(D.C.modify 0 _).modify 1 _;rw[<-hc];rfl
  ·show _=((b:Int),((DM.gen (⟨_,_,_⟩:DM) b:Nat):Int),(0:Int))
   have hb:(D.L.modify b fun s=>(⟨s.g,true,C2 k t x⟩:Sl))[b]? =some ⟨f.g,true,C2 k t x⟩:=by rw[j9,PG rfl,n];rfl
   rw[cI_set0 n,o];unfold DM.gen;simp only[hb]
 ·refine fun D K d w=>?_;have p:D.free=[]:=by
   obtain⟨_,rfl,_⟩:=d;cases e:D.free with
   |nil=>rfl|cons a l=>rw[e]at hF;simp[ln]at hF
  have lim:=w.lim;obtain⟨rfl,rfl,hc⟩:=d;have A:ln (D.L.map Sl.row)=(D.L.length:Int):=by simp[ln]
  have q:D.L.map Sl.row++K1=(D.L++ [(⟨1,false,C2 0 [] []⟩:Sl)]).map Sl.row:=by rw[Qj];rfl
  have gr:D.grow=⟨D.L++ [⟨1,false,C2 0 [] []⟩],[D.L.length],D.C⟩:=by unfold DM.grow;rw[PG p]
  have tk:D.take (C2 k t x)=(⟨(D.L++ [(⟨1,false,C2 0 [] []⟩:Sl)]).modify D.L.length fun s=>⟨s.g,true,C2 k t x⟩,[],D.C⟩,D.L.length):=by unfold DM.take;rw[gr]
  have hb:(D.L++ [(⟨1,false,C2 0 [] []⟩:Sl)])[D.L.length]? =some ⟨1,false,C2 0 [] []⟩:=by simp
  have e0:cI ((D.L++ [(⟨1,false,C2 0 [] []⟩:Sl)]).map Sl.row) D.L.length 0=((1:Nat):Int):=by simp only[cI];rw[i4 (by rw[Qd];exact hb),Sl.r0];rfl
  show Rf (P2 D k (if k=1 then s else []) (if k=1 then []else s)).1 _ _ _/\(_,_,(0:Int))=(P2 D k (if k=1 then s else []) (if k=1 then []else s)).2;rw[cre D,q,A,wr _ (by omega),e0,tk,JJ hb rfl];refine⟨⟨rfl,by rw[p];rfl,?_⟩,?_⟩;show _=(D.C.modify 0 _).modify 1 _;rw[<-hc];rfl
  ·show _=((D.L.length:Int),((DM.gen (⟨_,_,_⟩:DM) D.L.length:Nat):Int),(0:Int))
   have j:((D.L++ [(⟨1,false,C2 0 [] []⟩:Sl)]).modify D.L.length fun s=>(⟨s.g,true,C2 k t x⟩:Sl))[D.L.length]? =some ⟨1,true,C2 k t x⟩:=by rw[j9,PG rfl,hb];rfl
   rw[cI_set0 hb];unfold DM.gen;simp only[j]
def vcRcre_ok :vcRcre:=by
 unfold vcRcre;intro L F c0 c1 c2 c3 c4 c5 c6 c7 k s h;obtain⟨hk,hp⟩:=h;have bad:((k=1/\B1 s=false)\/(k=2/\I0 s=false))->vcRcre1 L F c0 c1 c2 c3 c4 c5 c6 c7 k s:=fun hb=>by
  unfold vcRcre1;refine ndt fun D K A w=>?_;have:P2 D k (if k=1 then s else []) (if k=1 then []else s)=(D,0,0,1):=by unfold P2;rw[PG];rcases hb with⟨rfl,h⟩| ⟨rfl,h⟩;exact .inl ⟨rfl,h⟩;exact .inr ⟨rfl,h⟩
  show Rf (P2 D k (if k=1 then s else []) (if k=1 then []else s)).1 _ _ _/\(_,_,(1:Int))=(P2 D k (if k=1 then s else []) (if k=1 then []else s)).2;rw[this];exact⟨A,rfl⟩
 have eqb:∀ {b v:Bool},b=v-> ¬b=true->v=false:=fun h h'=>by subst h;simpa using h'
 have l:∀ {a:Int},0<=a-> ¬a<0:=fun h=>by omega
 have o:∀X:Sx.Rows,0<=ln X:=fun X=>by simp only[ln];omega
 refine⟨fun e=>ndi trivial fun b hb=>⟨fun d=>⟨fun r=>by omega,fun _=>?_⟩,fun d=>bad (.inl ⟨e,eqb hb d⟩)⟩,fun e=>⟨fun r=>ndi trivial fun b hb=>⟨fun d=>?_,fun d=>bad (.inr ⟨r,eqb hb d⟩)⟩,fun r=>absurd (hk.resolve_left e) r⟩⟩
 ·have hb:b=B1 s:=hb;obtain⟨p,q,B,y,z⟩:=yF (k:=k) (t:=s) (x:=[]) (s:=s) hk (by rintro (⟨_,h⟩| ⟨h,_⟩);rw[<-hb,d]at h;cases h;omega) (by rw[PG e]) (by rw[PG e]) hp;unfold vcRcre0;refine rO hp ⟨fun hF=>?_,fun hF=>?_⟩;obtain⟨m,f,u⟩:=y hF;refine ndi hF<|ndi (by omega)<|nin<|ndi e<|ndi (l m)<|ndi f<|ndi f<|ndi (l m)<|ndi f<|ndi f<|ndi p<|ndi q ⟨fun h=>absurd h (l m),fun _=>ndi (l m)<|ndi f<|ndi f<|nin<|nrn<|ndt u⟩
  ·have j:ln L<ln L+1:=by omega
   have n:=l (o L);exact nin<|ndi (by simp only[ln];omega)<|nrn<|ndi e<|ndi n<|ndi j<|ndi j<|ndi n<|ndi j<|ndi j<|ndi p<|ndi q ⟨fun h=>absurd h n,fun _=>ndi n<|ndi j<|ndi j<|nin<|nrn<|ndt (z hF)⟩
 ·have hb:b=I0 s:=hb;obtain⟨p,q,B,y,z⟩:=yF (k:=k) (t:=[]) (x:=s) (s:=s) hk (by rintro (⟨h,_⟩| ⟨_,h⟩);omega;rw[<-hb,d]at h;cases h) (by rw[PE e]) (by rw[PE e]) hp;unfold vcRcre2;refine rO hp ⟨fun hF=>?_,fun hF=>?_⟩;obtain⟨m,f,u⟩:=y hF;refine ndi hF<|ndi (by omega)<|nin<|ndi e<|ndi (l m)<|ndi f<|ndi f<|ndi (l m)<|ndi f<|ndi f<|ndi p<|ndi q ⟨fun h=>absurd h (l m),fun _=>ndi (l m)<|ndi f<|ndi f<|nin<|nrn<|ndt u⟩
  ·have j:ln L<ln L+1:=by omega
   have n:=l (o L);exact nin<|ndi (by simp only[ln];omega)<|nrn<|ndi e<|ndi n<|ndi j<|ndi j<|ndi n<|ndi j<|ndi j<|ndi p<|ndi q ⟨fun h=>absurd h n,fun _=>ndi n<|ndi j<|ndi j<|nin<|nrn<|ndt (z hF)⟩
