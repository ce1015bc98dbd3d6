/- The reference's DOM: the conditions of At, Copy, place, put, without, Find, insert hold.
  Conditions: none. -/
import Derived.Test.YtgmiikiinbaapaaGreatK3
set_option linter.all false
noncomputable section
namespace Go.D
open Go Go.Xe Go.Sx
def vcRat_ok :vcRat:=by
 unfold vcRat;intro L F c0 d f j m o q r i g h;obtain⟨hi,hg,hl⟩:=h;have s:ln L=(L.length:Int):=rfl;unfold U32 at hi;refine ndi ⟨by omega,by omega,fun h=>by omega⟩ fun k hk=>?_;obtain⟨k0,k1,hI⟩:=hk;have b:k<L.length->IntKind.wrap .u32 k=k:=fun h=>M9 (by simp[IntKind.min,IntKind.signed];omega) (by simp[IntKind.max,IntKind.signed,IntKind.bits];omega);have next:k<L.length->(v9 L i g=true->i≠k)->Sx.Nd (I64 (k+1)) (Sx.Nd (jI [.lst L,.int i,.int g] [.int (k+1)]) (Sx.Nd (lG [.lst L,.int i,.int g] [.int (k+1)]<lG [.lst L,.int i,.int g] [.int k]) True)):=fun h hn=>
  ndi (by unfold I64;omega) (ndi ⟨by omega,by omega,fun hv=>by have:=hI hv;have:=hn hv;omega⟩ (ndt (by simp only[lG,A7,ln];omega)))
 refine⟨fun h=>?_,fun h=>ndt ?_⟩
 ·have h:k<L.length:=h;rw[b h];refine⟨fun e=>ndi (by omega) (ndi h ⟨fun hb=>ndi (by omega) (ndi h ⟨fun hc=>ndt ?_,fun hc=>next h fun hv _=>?_⟩),fun hb=>next h fun hv _=>?_⟩),fun e=>next h fun _ e'=>e e'.symm⟩;all_goals subst e
  ·show k=if v9 L k g=true then k else-1
   rw[PG];unfold v9;have hb:(z4 L k 1).toBool=true:=hb;have hc:(z4 L k 0).toInt=g:=hc;simp[k0,h,hb,hc]
  unfold v9 at hv;simp only[Pk,PF]at hv;exact hc hv.2;unfold v9 at hv;simp only[Pk,PF]at hv;exact hb hv.1.2
 ·show(-1:Int)=if v9 L i g=true then i else-1
  rw[PE fun hv=>?_];have:=hI hv;unfold v9 at hv;simp only[Pk,PF]at hv;omega
variable {L:Sx.Rows}
def Sl.row_eta (s:Sl){k:Int}(h:∀j,z4 L k j=s.row.getD j (.int 0)):b8 11 1 [(.int (cI L k 0)),(.bool (cB L k 1)),(.int (cI L k 2)),(.str (cS L k 3)),(.lst (cL L k 4)),(.str (cS L k 5)),(.int (cI L k 6)),(.int (cI L k 7)),(.bool (cB L k 8)),(.int (cI L k 9)),(.lst (cL L k 10))]=[s.row]:=by simp only[cI,cB,cS,cL,h];unfold Sl.row;split<;>rfl
def WF.lens {D:DM}{K:Nat}(w:WF D K){s:Sl}(hs:s∈D.L){k:Int}(h:∀j,z4 L k j=s.row.getD j (.int 0)):(cL L k 4).length<=8/\(cL L k 10).length<=1000:=by simp only[cL,h];obtain⟨j,hj⟩:=Rp hs;unfold Sl.row;split;rename_i b;have:=(w.atts j s hj b).1;have:=w.kidlen hj b;simp[Dat.rows];omega;simp[Dat.rows]
def vcRcp_ok :vcRcp:=by
 unfold vcRcp;intro L F c0 i m o q r t u h;obtain⟨D,K,⟨rfl,rfl,hc⟩,w⟩:=h;have lim:=w.lim;have fl:D.free.length<=1000:=by
  have hs:D.free ⊆ List.range D.L.length:=fun j hj=>by obtain⟨s,h1,_⟩:=w.free.2 j hj;exact List.mem_range.2 (Po.1 h1).1
  have:=w.free.1.length_le_of_subset hs;rw[List.length_range]at this;omega
 have H:ln (D.L.map Sl.row)=(D.L.length:Int):=by simp[ln]
 refine ndi (by simp only[ln,PD];omega) (nin (nrn (ndi ⟨by omega,by omega,by simp,rfl⟩ fun k O F' x y z A B C E G hI=>?_)));obtain⟨k0,k1,b,d⟩:=hI;cases d;have f:(O.length:Int)=k:=by
  have:k<=D.L.length:=by simpa using k1
  rw[b,PW,PD];omega
 have g:ln O=k:=f;refine⟨fun h=>?_,fun h=>nin (nrn (ndt ?_))⟩
 ·obtain⟨s,hs⟩:=Sx.get_at (T:=D.L) k0 (by omega);have hr:∀j,z4 (D.L.map Sl.row) k j=s.row.getD j (.int 0):=fun j=>i4 hs j;obtain⟨I,J⟩:=w.lens (Pv hs) hr;rw[s.row_eta hr];refine ndi (by omega) (ndi h (ndi (by simp only[ln];omega) (ndi (by simp only[ln];omega) (nin (nrn (nin (nrn (nin (ndi (by omega) (nrn (ndi (by unfold I64;omega) (nin (nrn (ndi ⟨by omega,?_,?_,rfl⟩ (ndt ?_)))))))))))))));simp;omega
  ·have e:(k+1).toNat=k.toNat+1:=by omega
   rw[e,b,I5 (G6 hs)]
  simp only[KU,A7];simp only[ln,PD]at*;omega
 refine⟨?_,rfl,rfl,rfl,rfl,rfl,rfl,rfl,rfl,rfl⟩;rw[b];exact Ql (by simp;omega)
def tU :∀ {l m:Ah},l.map A5=m.map A5->l=m
 | [],[],_=>rfl| [],_::_,h=>by simp at h|_::_,[],h=>by simp at h|a::l,b::m,h=>by
  simp only[Qn,QE]at h;have h1:((a:Nat):Int)=b:=by have:=h.1;simp only[A5,QE,Dat.int.injEq]at this;exact this.1
  rw[tU h.2,show a=b by omega]
section
variable {l :Ah}{c:Nat}{k a:Int}{O:Sx.Rows}
def dZ {P:Ah->Nat->Prop}:(∀(m:Ah) (d:Nat),l.map A5=m.map A5->(c:Int)=d->P m d)↔P l c:=
 ⟨fun h=>h l c rfl rfl,fun h m d h1 h2=>by rw[<-tU h1,show d=c by omega];exact h⟩
def cI_il {b:Nat}(h:l[k.toNat]? =some b):cI (l.map A5) k 0=b:=by simp only[cI,i4 h];rfl
def Bd :oD [.lst (l.map A5),.int c] [.int k]↔0<=k/\k<=(l.length:Int)/\c∉l.take k.toNat:=by simp only[oD,PD,dZ (P:=fun l c=>c∉l.take k.toNat)]
def vcRpl_ok :vcRpl:=by
 unfold vcRpl;rintro L i ⟨l,c,rfl,rfl,hl⟩;have d:ln (l.map A5)=(l.length:Int):=by simp[ln]
 refine ndi (Bd.2 ⟨by omega,by omega,by simp⟩) fun k hI=>?_;obtain⟨k0,k1,hI⟩:=Bd.1 hI;rw[d];refine⟨fun h=>?_,fun h=>ndt (dZ (P:=fun l c=>(-1:Int)<0↔c∉l)|>.2 ?_)⟩
 ·obtain⟨b,hb⟩:=Sx.get_at (T:=l) k0 h;rw[cI_il hb];refine ndi (by omega) (ndi h ⟨fun e=>ndt (dZ (P:=fun l c=>k<0↔c∉l)|>.2 ?_),fun e=>ndi (by unfold I64;omega) (ndi (Bd.2 ⟨by omega,by omega,?_⟩) (ndt ?_))⟩)
  ·have:c∈l:=by rw[show c=b by omega];exact Pv hb
   simp[this];omega
  rw[p7 k0 hb];simp only[PZ,QA,not_or];exact⟨hI,by omega⟩;simp only[Lc,A7,d];omega
 rw[A6 (by omega)]at hI;simp[hI]
def lP :cN [.lst (l.map A5),.int c,.int a] [.int k,.lst O]↔0<=k/\k<=(l.length:Int)/\(O.length:Int)<=2*k/\O=(qG (l.take k.toNat) c a).map A5:=by simp only[cN,PD,dZ (P:=fun l c=>O=(qG (l.take k.toNat) c a).map A5)]
def Dc (l m:Ah):qG (l++m) c a=qG l c a++qG m c a:=by unfold qG;rw[List.flatMap_append]
def vcRput_ok :vcRput:=by
 unfold vcRput;rintro L i a ⟨l,c,rfl,rfl,hl⟩;have m:ln (l.map A5)=(l.length:Int):=by simp[ln]
 refine ndi (lP.2 ⟨by omega,by omega,by simp,by simp[qG]⟩) fun k O hI=>?_;obtain⟨k0,k1,k2,f⟩:=lP.1 hI;have q:ln O=(O.length:Int):=rfl;rw[m];have o:∀ {A:Sx.Rows},(O++A).length=O.length+A.length:=fun{A}=>PL;refine⟨fun h=>?_,fun h=>⟨fun j=>?_,fun j=>?_⟩⟩;obtain⟨b,hb⟩:=Sx.get_at (T:=l) k0 h;rw[cI_il hb];have g:∀x:Nat,b8 1 1 [.int (x:Int)]=([x]:Ah).map A5:=fun _=>rfl;refine ndi (by omega) (ndi h ⟨fun e=>nin (ndi (by omega) (nrn (ndi (by omega) (ndi h (nin (ndi (by omega) (nrn (ndi (by unfold I64;omega) (nin (nrn (ndi (lP.2 ⟨by omega,by omega,?_,?_⟩) (ndt ?_)))))))))))),fun e=>ndi (by omega) (ndi h (nin (ndi (by omega) (nrn (ndi (by unfold I64;omega) (nin (nrn (ndi (lP.2 ⟨by omega,by omega,?_,?_⟩) (ndt ?_)))))))))⟩);simp[b8];omega;rw[g,g,p7 k0 hb,Dc,f];unfold qG;rw[List.flatMap_singleton,PG e];simp;simp only[oE,A7,m];omega;simp[b8];omega;rw[g,p7 k0 hb,Dc,f];unfold qG;rw[List.flatMap_singleton,PE e];simp;simp only[oE,A7,m];omega;refine nin (ndi (by omega) (nrn (nin (nrn (ndt (dZ (P:=fun l d=>O++b8 1 1 [.int ↑c]=(Q7 l d a).map A5)|>.2 ?_))))));rw[f,A6 (by omega)];unfold Q7 qG;rw[PG j];simp[b8,A5];refine nin (nrn (ndt (dZ (P:=fun l c=>O=(Q7 l c a).map A5)|>.2 ?_)));rw[f,A6 (by omega)];unfold Q7 qG;rw[PE j];simp
def lY :cP [.lst (l.map A5),.int c] [.int k,.lst O]↔0<=k/\k<=(l.length:Int)/\(O.length:Int)<=k/\O=(J0 (l.take k.toNat) c).map A5:=by simp only[cP,PD,dZ (P:=fun l c=>O=(J0 (l.take k.toNat) c).map A5)]
def vcRwit_ok :vcRwit:=by
 unfold vcRwit;rintro L i ⟨l,c,rfl,rfl,hl⟩;have f:ln (l.map A5)=(l.length:Int):=by simp[ln]
 refine ndi (lY.2 ⟨by omega,by omega,by simp,by simp[J0]⟩) fun k O hI=>?_;obtain⟨k0,k1,k2,d⟩:=lY.1 hI;have g:ln O=(O.length:Int):=rfl;rw[f];refine⟨fun h=>?_,fun h=>nin (nrn (ndt (dZ (P:=fun l c=>O=(J0 l c).map A5)|>.2 ?_)))⟩;obtain⟨b,hb⟩:=Sx.get_at (T:=l) k0 h;rw[cI_il hb];refine ndi (by omega) (ndi h ⟨fun e=>ndi (by unfold I64;omega) (nin (nrn (ndi (lY.2 ⟨by omega,by omega,by omega,?_⟩) (ndt ?_)))),fun e=>ndi (by omega) (ndi h (nin (ndi (by omega) (nrn (ndi (by unfold I64;omega) (nin (nrn (ndi (lY.2 ⟨by omega,by omega,?_,?_⟩) (ndt ?_)))))))))⟩);rw[p7 k0 hb,d];unfold J0;rw[List.filter_append];simp[show b=c by omega];simp only[oF,A7,f];omega;simp[b8];omega;rw[p7 k0 hb,d];unfold J0;rw[List.filter_append];simp[show b≠c by omega,b8,A5];simp only[oF,A7,f];omega;rw[d,A6 (by omega)]
end
section
variable {l :List Att}{k:Int}{n v:Str}{O:Sx.Rows}{p:Bool}
def mY {P:List Att->Prop}:(∀m:List Att,l.map Att.row=m.map Att.row->P m)↔P l:=⟨fun h=>h l rfl,fun h m e=>by rw[<-R1 e];exact h⟩
def zR :nG [.lst (l.map Att.row),.str n] [.int k]↔0<=k/\k<=(l.length:Int)/\ ∀a∈l.take k.toNat,a.n≠n:=by simp only[nG,PD,mY (P:=fun l=>∀a∈l.take k.toNat,a.n≠n)]
def cS_al {b:Att}(h:l[k.toNat]? =some b):cS (l.map Att.row) k 0=b.n/\cS (l.map Att.row) k 1=b.v:=by simp only[cS,i4 h];exact⟨rfl,rfl⟩
def vcFnd_ok :vcFnd:=by
 unfold vcFnd;rintro L n ⟨l,rfl,hl⟩;have d:ln (l.map Att.row)=(l.length:Int):=by simp[ln]
 refine ndi (zR.2 ⟨by omega,by omega,by simp⟩) fun k hI=>?_;obtain⟨k0,k1,hI⟩:=zR.1 hI;rw[d];refine⟨fun h=>?_,fun h=>ndt ⟨by omega,by omega,mY (P:=fun l=>((-1:Int)<0/\ ∀a∈l,a.n≠n)\/_)|>.2 (.inl ⟨by omega,?_⟩)⟩⟩;obtain⟨b,hb⟩:=Sx.get_at (T:=l) k0 h;rw[(cS_al hb).1];refine ndi (by omega) (ndi h ⟨fun e=>ndt ⟨by omega,by simpa using h,mY (P:=fun l=>(k<0/\ ∀a∈l,a.n≠n)\/(0<=k/\ ∃a,l[k.toNat]? =some a/\a.n=n))|>.2 (.inr ⟨k0,b,hb,e⟩)⟩,fun e=>ndi (by unfold I64;omega) (ndi (zR.2 ⟨by omega,by omega,?_⟩) (ndt ?_))⟩);rw[p7 k0 hb];intro a f;rcases PZ.1 f with h|h;exact hI a h;rw[QA.1 h];exact e;simp only[JQ,A7,d];omega;rwa[A6 (by omega)]at hI
def lK :cK [.lst (l.map Att.row),.str n,.str v] [.int k,.lst O,.bool p]↔0<=k/\k<=(l.length:Int)/\(O.length:Int)<=k+(if p=true then 1 else 0)/\ ∃o:List Att,O=o.map Att.row/\(if p=true then o++l.drop k.toNat else o++aT (l.drop k.toNat) ⟨n,v⟩)=aT l ⟨n,v⟩:=by simp only[cK,PD,mY (P:=fun l=>∃o:List Att,O=o.map Att.row/\(if p=true then o++l.drop k.toNat else o++aT (l.drop k.toNat) ⟨n,v⟩)=aT l ⟨n,v⟩)]
def vcRins_ok :vcRins:=by
 unfold vcRins;rintro L n v ⟨l,rfl,hl⟩;have j:ln (l.map Att.row)=(l.length:Int):=by simp[ln]
 refine ndi (lK.2 ⟨by omega,by omega,by simp,[],rfl,by simp⟩) fun k O p hI=>?_;obtain⟨k0,k1,k2,o,rfl,f⟩:=lK.1 hI;have i:ln (o.map Att.row)=(o.length:Int):=by simp[ln]
 have k2:(o.length:Int)<=k+(if p=true then 1 else 0):=by simpa using k2
 have k3:(o.length:Int)<=k+1:=by split at k2<;>omega
 rw[j,i];refine⟨fun h=>?_,fun h=>⟨fun hp=>nin (nrn (ndt ?_)),fun hp=>nin (ndi (by omega) (nrn (nin (nrn (ndt ?_)))))⟩⟩
 ·obtain⟨b,hb⟩:=Sx.get_at (T:=l) k0 h;have g:l.drop k.toNat=b::l.drop (k+1).toNat:=by obtain⟨h1,rfl⟩:=Po.1 hb;rw[show(k+1).toNat=k.toNat+1 by omega];exact List.drop_eq_getElem_cons h1
  have d:(p=true\/lt n b.n=false)->vcRins0 k (l.map Att.row) (o.map Att.row) n v p:=fun hp=>by unfold vcRins0;rw[j,i,(cS_al hb).1,(cS_al hb).2];refine ndi (by omega) (ndi h (nin (ndi (by omega) (nrn (ndi (by unfold I64;omega) (nin (nrn (ndi (lK.2 ⟨by omega,by omega,?_,o++ [b],by rw[Qj];rfl,?_⟩) (ndt ?_)))))))));rw[PL,PD];show((o.length+1:Nat):Int)<=_;split at k2<;>rename_i h1;rw[PG h1];omega;rw[PE h1];omega;rw[<-f,g];rcases hp with rfl|hp;simp;cases p;simp[aT,hp];simp;simp only[nZ,A7];simp only[ln,PD]at*;omega
  refine⟨fun hp=>d (.inl hp),fun hp=>ndi (by omega) (ndi h ⟨fun hlt=>?_,fun hlt=>d (.inr ?_)⟩)⟩;rw[(cS_al hb).1,(cS_al hb).2];rw[(cS_al hb).1]at hlt;have hlt:lt n b.n=true:=hlt;refine nin (ndi (by omega) (nrn (ndi (by omega) (ndi h (nin (ndi (by omega) (nrn (ndi (by unfold I64;omega) (nin (nrn (ndi (lK.2 ⟨by omega,by omega,?_,o++ [⟨n,v⟩]++ [b],by simp[b8,Att.row],?_⟩) (ndt ?_))))))))))));rw[PL,PL,PD,PG rfl];show((o.length+1+1:Nat):Int)<=_;rw[PE hp]at k2;omega;rw[PE hp,g]at f;rw[PG rfl,<-f];simp[aT,hlt];simp only[nZ,A7];simp only[ln,PD]at*;omega
  ·rw[(cS_al hb).1]at hlt;cases e:lt n b.n with
   |false=>rfl|true=>exact absurd e hlt
 refine mY (P:=fun l=>o.map Att.row=(aT l ⟨n,v⟩).map Att.row)|>.2 ?_;rw[PG hp,List.drop_eq_nil_of_le (by omega),QX]at f;rw[f];refine mY (P:=fun l=>o.map Att.row++b8 2 1 [.str n,.str v]=(aT l ⟨n,v⟩).map Att.row)|>.2 ?_;rw[PE hp,List.drop_eq_nil_of_le (by omega)]at f;rw[<-f];simp[b8,Att.row,aT]
