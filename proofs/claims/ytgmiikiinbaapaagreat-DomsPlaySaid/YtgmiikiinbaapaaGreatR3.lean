/- The reference's DOM: the conditions of At, Copy, place, put, without, Find, insert hold.
  Conditions: none. -/
import Derived.Test.YtgmiikiinbaapaaGreatU2
import Derived.Test.YtgmiikiinbaapaaGreatK3
set_option linter.all false
noncomputable section
namespace Go.D
open Go Go.Xe Go.Sx
def vcRat_ok :vcRat:=by
 unfold vcRat;intro L F c0 d f j m o q r i g h;obtain⟨hi,hg,hl⟩:=h;have s:ln L=(L.length:Int):=rfl;unfold U32 at hi;refine ndi ⟨by omega,by omega,fun h=>by omega⟩ fun k hk=>?_;obtain⟨k0,k1,hI⟩:=hk;have b:k<L.length->IntKind.wrap .u32 k=k:=fun h=>P6 (by simp[IntKind.min,IntKind.signed];omega) (by simp[IntKind.max,IntKind.signed,IntKind.bits];omega);have next:k<L.length->(y4 L i g=true->i≠k)->Sx.Nd (I64 (k+1)) (Sx.Nd (iY [.lst L,.int i,.int g] [.int (k+1)]) (Sx.Nd (kU [.lst L,.int i,.int g] [.int (k+1)]<kU [.lst L,.int i,.int g] [.int k]) True)):=fun h hn=>
  ndi (by unfold I64;omega) (ndi ⟨by omega,by omega,fun hv=>by have:=hI hv;have:=hn hv;omega⟩ (ndt (by simp only[kU,A5,ln];omega)))
 refine⟨fun h=>?_,fun h=>ndt ?_⟩
 ·have h:k<L.length:=h;rw[b h];refine⟨fun e=>ndi (by omega) (ndi h ⟨fun hb=>ndi (by omega) (ndi h ⟨fun hc=>ndt ?_,fun hc=>next h fun hv _=>?_⟩),fun hb=>next h fun hv _=>?_⟩),fun e=>next h fun _ e'=>e e'.symm⟩;all_goals subst e
  ·show k=if y4 L k g=true then k else-1
   rw[OY];unfold y4;have hb:(y9 L k 1).toBool=true:=hb;have hc:(y9 L k 0).toInt=g:=hc;simp[k0,h,hb,hc]
  ·unfold y4 at hv;simp only[OE,OX]at hv;exact hc hv.2
  ·unfold y4 at hv;simp only[OE,OX]at hv;exact hb hv.1.2
 ·show(-1:Int)=if y4 L i g=true then i else-1
  rw[OW fun hv=>?_];have:=hI hv;unfold y4 at hv;simp only[OE,OX]at hv;omega
variable {L:Sx.Rows}
def Sl.row_eta (s:Sl){k:Int}(h:∀j,y9 L k j=s.row.getD j (.int 0)):b8 11 1 [(.int (cI L k 0)),(.bool (cB L k 1)),(.int (cI L k 2)),(.str (cS L k 3)),(.lst (cL L k 4)),(.str (cS L k 5)),(.int (cI L k 6)),(.int (cI L k 7)),(.bool (cB L k 8)),(.int (cI L k 9)),(.lst (cL L k 10))]=[s.row]:=by simp only[cI,cB,cS,cL,h];unfold Sl.row;split<;>rfl
def WF.lens {D:DM}{K:Nat}(w:WF D K){s:Sl}(hs:s∈D.L){k:Int}(h:∀j,y9 L k j=s.row.getD j (.int 0)):(cL L k 4).length<=8/\(cL L k 10).length<=1000:=by
 simp only[cL,h];obtain⟨j,hj⟩:=QG hs;unfold Sl.row;split
 ·rename_i b;have:=(w.atts j s hj b).1;have:=w.kidlen hj b;simp[Dat.rows];omega
 ·simp[Dat.rows]
def vcRcp_ok :vcRcp:=by
 unfold vcRcp;intro L F c0 i m o q r t u h;obtain⟨D,K,⟨rfl,rfl,hc⟩,w⟩:=h;have lim:=w.lim;have fl:D.free.length<=1000:=by
  have hs:D.free ⊆ List.range D.L.length:=fun j hj=>by obtain⟨s,h1,_⟩:=w.free.2 j hj;exact List.mem_range.2 (OG.1 h1).1
  have:=w.free.1.length_le_of_subset hs;rw[List.length_range]at this;omega
 have H:ln (D.L.map Sl.row)=(D.L.length:Int):=by simp[ln]
 refine ndi (by simp only[ln,OV];omega) (nin (nrn (ndi ⟨by omega,by omega,by simp,rfl⟩ fun k O F' x y z A B C E G hI=>?_)));obtain⟨k0,k1,b,d⟩:=hI;cases d;have f:(O.length:Int)=k:=by
  have:k<=D.L.length:=by simpa using k1
  rw[b,Po,OV];omega
 have g:ln O=k:=f;refine⟨fun h=>?_,fun h=>nin (nrn (ndt ?_))⟩
 ·obtain⟨s,hs⟩:=Sx.get_at (T:=D.L) k0 (by omega);have hr:∀j,y9 (D.L.map Sl.row) k j=s.row.getD j (.int 0):=fun j=>i4 hs j;obtain⟨I,J⟩:=w.lens (ON hs) hr;rw[s.row_eta hr];refine ndi (by omega) (ndi h (ndi (by simp only[ln];omega) (ndi (by simp only[ln];omega) (nin (nrn (nin (nrn (nin (ndi (by omega) (nrn (ndi (by unfold I64;omega) (nin (nrn (ndi ⟨by omega,?_,?_,rfl⟩ (ndt ?_)))))))))))))))
  ·simp;omega
  ·have e:(k+1).toNat=k.toNat+1:=by omega
   rw[e,b,I1 (G2 hs)]
  ·simp only[Kt,A5];simp only[ln,OV]at*;omega
 ·refine⟨?_,rfl,rfl,rfl,rfl,rfl,rfl,rfl,rfl,rfl⟩;rw[b];exact PC (by simp;omega)
def tF :∀ {l m:Ah},l.map A3=m.map A3->l=m
 | [],[],_=>rfl| [],_::_,h=>by simp at h|_::_,[],h=>by simp at h|a::l,b::m,h=>by
  simp only[PE,PZ]at h;have h1:((a:Nat):Int)=b:=by have:=h.1;simp only[A3,PZ,Dat.int.injEq]at this;exact this.1
  rw[tF h.2,show a=b by omega]
section
variable {l :Ah}{c:Nat}{k a:Int}{O:Sx.Rows}
def dS {P:Ah->Nat->Prop}:(∀(m:Ah) (d:Nat),l.map A3=m.map A3->(c:Int)=d->P m d)↔P l c:=
 ⟨fun h=>h l c rfl rfl,fun h m d h1 h2=>by rw[<-tF h1,show d=c by omega];exact h⟩
def cI_il {b:Nat}(h:l[k.toNat]? =some b):cI (l.map A3) k 0=b:=by simp only[cI,i4 h];rfl
def AF :nM [.lst (l.map A3),.int c] [.int k]↔0<=k/\k<=(l.length:Int)/\c∉l.take k.toNat:=by simp only[nM,OV,dS (P:=fun l c=>c∉l.take k.toNat)]
def vcRpl_ok :vcRpl:=by
 unfold vcRpl;rintro L i ⟨l,c,rfl,rfl,hl⟩;have d:ln (l.map A3)=(l.length:Int):=by simp[ln]
 refine ndi (AF.2 ⟨by omega,by omega,by simp⟩) fun k hI=>?_;obtain⟨k0,k1,hI⟩:=AF.1 hI;rw[d];refine⟨fun h=>?_,fun h=>ndt (dS (P:=fun l c=>(-1:Int)<0↔c∉l)|>.2 ?_)⟩
 ·obtain⟨b,hb⟩:=Sx.get_at (T:=l) k0 h;rw[cI_il hb];refine ndi (by omega) (ndi h ⟨fun e=>ndt (dS (P:=fun l c=>k<0↔c∉l)|>.2 ?_),fun e=>ndi (by unfold I64;omega) (ndi (AF.2 ⟨by omega,by omega,?_⟩) (ndt ?_))⟩)
  ·have:c∈l:=by rw[show c=b by omega];exact ON hb
   simp[this];omega
  ·rw[m9 k0 hb];simp only[Pq,PS,not_or];exact⟨hI,by omega⟩
  ·simp only[KA,A5,d];omega
 ·rw[A4 (by omega)]at hI;simp[hI]
def lA :cF [.lst (l.map A3),.int c,.int a] [.int k,.lst O]↔0<=k/\k<=(l.length:Int)/\(O.length:Int)<=2*k/\O=(pT (l.take k.toNat) c a).map A3:=by simp only[cF,OV,dS (P:=fun l c=>O=(pT (l.take k.toNat) c a).map A3)]
def CH (l m:Ah):pT (l++m) c a=pT l c a++pT m c a:=by unfold pT;rw[List.flatMap_append]
def vcRput_ok :vcRput:=by
 unfold vcRput;rintro L i a ⟨l,c,rfl,rfl,hl⟩;have m:ln (l.map A3)=(l.length:Int):=by simp[ln]
 refine ndi (lA.2 ⟨by omega,by omega,by simp,by simp[pT]⟩) fun k O hI=>?_;obtain⟨k0,k1,k2,f⟩:=lA.1 hI;have q:ln O=(O.length:Int):=rfl;rw[m];have o:∀ {A:Sx.Rows},(O++A).length=O.length+A.length:=fun{A}=>Pe;refine⟨fun h=>?_,fun h=>⟨fun j=>?_,fun j=>?_⟩⟩
 ·obtain⟨b,hb⟩:=Sx.get_at (T:=l) k0 h;rw[cI_il hb];have g:∀x:Nat,b8 1 1 [.int (x:Int)]=([x]:Ah).map A3:=fun _=>rfl;refine ndi (by omega) (ndi h ⟨fun e=>nin (ndi (by omega) (nrn (ndi (by omega) (ndi h (nin (ndi (by omega) (nrn (ndi (by unfold I64;omega) (nin (nrn (ndi (lA.2 ⟨by omega,by omega,?_,?_⟩) (ndt ?_)))))))))))),fun e=>ndi (by omega) (ndi h (nin (ndi (by omega) (nrn (ndi (by unfold I64;omega) (nin (nrn (ndi (lA.2 ⟨by omega,by omega,?_,?_⟩) (ndt ?_)))))))))⟩)
  ·simp[b8];omega
  ·rw[g,g,m9 k0 hb,CH,f];unfold pT;rw[List.flatMap_singleton,OY e];simp
  ·simp only[nN,A5,m];omega
  ·simp[b8];omega
  ·rw[g,m9 k0 hb,CH,f];unfold pT;rw[List.flatMap_singleton,OW e];simp
  ·simp only[nN,A5,m];omega
 ·refine nin (ndi (by omega) (nrn (nin (nrn (ndt (dS (P:=fun l d=>O++b8 1 1 [.int ↑c]=(Q3 l d a).map A3)|>.2 ?_))))));rw[f,A4 (by omega)];unfold Q3 pT;rw[OY j];simp[b8,A3]
 ·refine nin (nrn (ndt (dS (P:=fun l c=>O=(Q3 l c a).map A3)|>.2 ?_)));rw[f,A4 (by omega)];unfold Q3 pT;rw[OW j];simp
def lE :cH [.lst (l.map A3),.int c] [.int k,.lst O]↔0<=k/\k<=(l.length:Int)/\(O.length:Int)<=k/\O=(I6 (l.take k.toNat) c).map A3:=by simp only[cH,OV,dS (P:=fun l c=>O=(I6 (l.take k.toNat) c).map A3)]
def vcRwit_ok :vcRwit:=by
 unfold vcRwit;rintro L i ⟨l,c,rfl,rfl,hl⟩;have f:ln (l.map A3)=(l.length:Int):=by simp[ln]
 refine ndi (lE.2 ⟨by omega,by omega,by simp,by simp[I6]⟩) fun k O hI=>?_;obtain⟨k0,k1,k2,d⟩:=lE.1 hI;have g:ln O=(O.length:Int):=rfl;rw[f];refine⟨fun h=>?_,fun h=>nin (nrn (ndt (dS (P:=fun l c=>O=(I6 l c).map A3)|>.2 ?_)))⟩
 ·obtain⟨b,hb⟩:=Sx.get_at (T:=l) k0 h;rw[cI_il hb];refine ndi (by omega) (ndi h ⟨fun e=>ndi (by unfold I64;omega) (nin (nrn (ndi (lE.2 ⟨by omega,by omega,by omega,?_⟩) (ndt ?_)))),fun e=>ndi (by omega) (ndi h (nin (ndi (by omega) (nrn (ndi (by unfold I64;omega) (nin (nrn (ndi (lE.2 ⟨by omega,by omega,?_,?_⟩) (ndt ?_)))))))))⟩)
  ·rw[m9 k0 hb,d];unfold I6;rw[List.filter_append];simp[show b=c by omega]
  ·simp only[nP,A5,f];omega
  ·simp[b8];omega
  ·rw[m9 k0 hb,d];unfold I6;rw[List.filter_append];simp[show b≠c by omega,b8,A3]
  ·simp only[nP,A5,f];omega
 ·rw[d,A4 (by omega)]
end
section
variable {l :List Att}{k:Int}{n v:Str}{O:Sx.Rows}{p:Bool}
def mM {P:List Att->Prop}:(∀m:List Att,l.map Att.row=m.map Att.row->P m)↔P l:=⟨fun h=>h l rfl,fun h m e=>by rw[<-Q6 e];exact h⟩
def zA :mT [.lst (l.map Att.row),.str n] [.int k]↔0<=k/\k<=(l.length:Int)/\ ∀a∈l.take k.toNat,a.n≠n:=by simp only[mT,OV,mM (P:=fun l=>∀a∈l.take k.toNat,a.n≠n)]
def cS_al {b:Att}(h:l[k.toNat]? =some b):cS (l.map Att.row) k 0=b.n/\cS (l.map Att.row) k 1=b.v:=by simp only[cS,i4 h];exact⟨rfl,rfl⟩
def vcFnd_ok :vcFnd:=by
 unfold vcFnd;rintro L n ⟨l,rfl,hl⟩;have d:ln (l.map Att.row)=(l.length:Int):=by simp[ln]
 refine ndi (zA.2 ⟨by omega,by omega,by simp⟩) fun k hI=>?_;obtain⟨k0,k1,hI⟩:=zA.1 hI;rw[d];refine⟨fun h=>?_,fun h=>ndt ⟨by omega,by omega,mM (P:=fun l=>((-1:Int)<0/\ ∀a∈l,a.n≠n)\/_)|>.2 (.inl ⟨by omega,?_⟩)⟩⟩
 ·obtain⟨b,hb⟩:=Sx.get_at (T:=l) k0 h;rw[(cS_al hb).1];refine ndi (by omega) (ndi h ⟨fun e=>ndt ⟨by omega,by simpa using h,mM (P:=fun l=>(k<0/\ ∀a∈l,a.n≠n)\/(0<=k/\ ∃a,l[k.toNat]? =some a/\a.n=n))|>.2 (.inr ⟨k0,b,hb,e⟩)⟩,fun e=>ndi (by unfold I64;omega) (ndi (zA.2 ⟨by omega,by omega,?_⟩) (ndt ?_))⟩)
  ·rw[m9 k0 hb];intro a f;rcases Pq.1 f with h|h
   ·exact hI a h
   ·rw[PS.1 h];exact e
  ·simp only[Jo,A5,d];omega
 ·rwa[A4 (by omega)]at hI
def kX :cE [.lst (l.map Att.row),.str n,.str v] [.int k,.lst O,.bool p]↔0<=k/\k<=(l.length:Int)/\(O.length:Int)<=k+(if p=true then 1 else 0)/\ ∃o:List Att,O=o.map Att.row/\(if p=true then o++l.drop k.toNat else o++aP (l.drop k.toNat) ⟨n,v⟩)=aP l ⟨n,v⟩:=by simp only[cE,OV,mM (P:=fun l=>∃o:List Att,O=o.map Att.row/\(if p=true then o++l.drop k.toNat else o++aP (l.drop k.toNat) ⟨n,v⟩)=aP l ⟨n,v⟩)]
def vcRins_ok :vcRins:=by
 unfold vcRins;rintro L n v ⟨l,rfl,hl⟩;have j:ln (l.map Att.row)=(l.length:Int):=by simp[ln]
 refine ndi (kX.2 ⟨by omega,by omega,by simp,[],rfl,by simp⟩) fun k O p hI=>?_;obtain⟨k0,k1,k2,o,rfl,f⟩:=kX.1 hI;have i:ln (o.map Att.row)=(o.length:Int):=by simp[ln]
 have k2:(o.length:Int)<=k+(if p=true then 1 else 0):=by simpa using k2
 have k3:(o.length:Int)<=k+1:=by split at k2<;>omega
 rw[j,i];refine⟨fun h=>?_,fun h=>⟨fun hp=>nin (nrn (ndt ?_)),fun hp=>nin (ndi (by omega) (nrn (nin (nrn (ndt ?_)))))⟩⟩
 ·obtain⟨b,hb⟩:=Sx.get_at (T:=l) k0 h;have g:l.drop k.toNat=b::l.drop (k+1).toNat:=by obtain⟨h1,rfl⟩:=OG.1 hb;rw[show(k+1).toNat=k.toNat+1 by omega];exact List.drop_eq_getElem_cons h1
  have d:(p=true\/lt n b.n=false)->vcRins0 k (l.map Att.row) (o.map Att.row) n v p:=fun hp=>by
   unfold vcRins0;rw[j,i,(cS_al hb).1,(cS_al hb).2];refine ndi (by omega) (ndi h (nin (ndi (by omega) (nrn (ndi (by unfold I64;omega) (nin (nrn (ndi (kX.2 ⟨by omega,by omega,?_,o++ [b],by rw[PA];rfl,?_⟩) (ndt ?_)))))))))
   ·rw[Pe,OV];show((o.length+1:Nat):Int)<=_;split at k2<;>rename_i h1
    ·rw[OY h1];omega
    ·rw[OW h1];omega
   ·rw[<-f,g];rcases hp with rfl|hp
    ·simp
    ·cases p
     ·simp[aP,hp]
     ·simp
   ·simp only[nJ,A5];simp only[ln,OV]at*;omega
  refine⟨fun hp=>d (.inl hp),fun hp=>ndi (by omega) (ndi h ⟨fun hlt=>?_,fun hlt=>d (.inr ?_)⟩)⟩
  ·rw[(cS_al hb).1,(cS_al hb).2];rw[(cS_al hb).1]at hlt;have hlt:lt n b.n=true:=hlt;refine nin (ndi (by omega) (nrn (ndi (by omega) (ndi h (nin (ndi (by omega) (nrn (ndi (by unfold I64;omega) (nin (nrn (ndi (kX.2 ⟨by omega,by omega,?_,o++ [⟨n,v⟩]++ [b],by simp[b8,Att.row],?_⟩) (ndt ?_))))))))))))
   ·rw[Pe,Pe,OV,OY rfl];show((o.length+1+1:Nat):Int)<=_;rw[OW hp]at k2;omega
   ·rw[OW hp,g]at f;rw[OY rfl,<-f];simp[aP,hlt]
   ·simp only[nJ,A5];simp only[ln,OV]at*;omega
  ·rw[(cS_al hb).1]at hlt;cases e:lt n b.n with
   |false=>rfl|true=>exact absurd e hlt
 ·refine mM (P:=fun l=>o.map Att.row=(aP l ⟨n,v⟩).map Att.row)|>.2 ?_;rw[OY hp,List.drop_eq_nil_of_le (by omega),Qr]at f;rw[f]
 ·refine mM (P:=fun l=>o.map Att.row++b8 2 1 [.str n,.str v]=(aP l ⟨n,v⟩).map Att.row)|>.2 ?_;rw[OW hp,List.drop_eq_nil_of_le (by omega)]at f;rw[<-f];simp[b8,Att.row,aP]
end
end Go.D
