/- The reference's DOM: the conditions of At, Copy, place, put, without, Find, insert hold.
  Conditions: none. -/
import Derived.Test.YtgmiikiinbaapaaGreatK3
set_option linter.all false
noncomputable section
namespace Go.D
open Go Go.Xe Go.Sx
def vcRat_ok :vcRat:=by
 unfold vcRat;intro L F c0 d f j m o q r i g h;obtain⟨hi,hg,hl⟩:=h;have s:ln L=(L.length:Int):=rfl;unfold U32 at hi;refine ndi ⟨by omega,by omega,fun h=>by omega⟩ fun k hk=>?_;obtain⟨k0,k1,hI⟩:=hk;have b:k<L.length->IntKind.wrap .u32 k=k:=fun h=>T0 (by simp[IntKind.min,IntKind.signed];omega) (by simp[IntKind.max,IntKind.signed,IntKind.bits];omega);have next:k<L.length->(z9 L i g=true->i≠k)->Sx.Nd (I64 (k+1)) (Sx.Nd (kQ [.lst L,.int i,.int g] [.int (k+1)]) (Sx.Nd (mT [.lst L,.int i,.int g] [.int (k+1)]<mT [.lst L,.int i,.int g] [.int k]) True)):=fun h hn=>
  ndi (by unfold I64;omega) (ndi ⟨by omega,by omega,fun hv=>by have:=hI hv;have:=hn hv;omega⟩ (ndt (by simp only[mT,B6,ln];omega)))
 refine⟨fun h=>?_,fun h=>ndt ?_⟩
 ·have h:k<L.length:=h;rw[b h];refine⟨fun e=>ndi (by omega) (ndi h ⟨fun hb=>ndi (by omega) (ndi h ⟨fun hc=>ndt ?_,fun hc=>next h fun hv _=>?_⟩),fun hb=>next h fun hv _=>?_⟩),fun e=>next h fun _ e'=>e e'.symm⟩;all_goals subst e
  ·show k=if z9 L k g=true then k else-1
   rw[QW];unfold z9;have hb:(p8 L k 1).toBool=true:=hb;have hc:(p8 L k 0).toInt=g:=hc;simp[k0,h,hb,hc]
  unfold z9 at hv;simp only[QB,QV]at hv;exact hc hv.2;unfold z9 at hv;simp only[QB,QV]at hv;exact hb hv.1.2
 ·show(-1:Int)=if z9 L i g=true then i else-1
  rw[QU fun hv=>?_];have:=hI hv;unfold z9 at hv;simp only[QB,QV]at hv;omega
variable {L:Sx.Rows}
def Sl.row_eta (s:Sl){k:Int}(h:∀j,p8 L k j=s.row.getD j (.int 0)):b8 11 1 [(.int (cI L k 0)),(.bool (cB L k 1)),(.int (cI L k 2)),(.str (cS L k 3)),(.lst (cL L k 4)),(.str (cS L k 5)),(.int (cI L k 6)),(.int (cI L k 7)),(.bool (cB L k 8)),(.int (cI L k 9)),(.lst (cL L k 10))]=[s.row]:=by simp only[cI,cB,cS,cL,h];unfold Sl.row;split<;>rfl
def WF.lens {D:DM}{K:Nat}(w:WF D K){s:Sl}(hs:s∈D.L){k:Int}(h:∀j,p8 L k j=s.row.getD j (.int 0)):(cL L k 4).length<=8/\(cL L k 10).length<=1000:=by simp only[cL,h];obtain⟨j,hj⟩:=SM hs;unfold Sl.row;split;rename_i b;have:=(w.atts j s hj b).1;have:=w.kidlen hj b;simp[Dat.rows];omega;simp[Dat.rows]
def vcRcp_ok :vcRcp:=by
 unfold vcRcp;intro L F c0 i m o q r t u h;obtain⟨D,K,⟨rfl,rfl,hc⟩,w⟩:=h;have lim:=w.lim;have fl:D.free.length<=1000:=by
  have hs:D.free ⊆ List.range D.L.length:=fun j hj=>by obtain⟨s,h1,_⟩:=w.free.2 j hj;exact List.mem_range.2 (QD.1 h1).1
  have:=w.free.1.length_le_of_subset hs;rw[List.length_range]at this;omega
 have H:ln (D.L.map Sl.row)=(D.L.length:Int):=by simp[ln]
 refine ndi (by simp only[ln,QT];omega) (nin (nrn (ndi ⟨by omega,by omega,by simp,rfl⟩ fun k O F' x y z A B C E G hI=>?_)));obtain⟨k0,k1,b,d⟩:=hI;cases d;have f:(O.length:Int)=k:=by
  have:k<=D.L.length:=by simpa using k1
  rw[b,Rm,QT];omega
 have g:ln O=k:=f;refine⟨fun h=>?_,fun h=>nin (nrn (ndt ?_))⟩
 ·obtain⟨s,hs⟩:=Sx.get_at (T:=D.L) k0 (by omega);have hr:∀j,p8 (D.L.map Sl.row) k j=s.row.getD j (.int 0):=fun j=>c9 hs j;obtain⟨I,J⟩:=w.lens (QK hs) hr;rw[s.row_eta hr];refine ndi (by omega) (ndi h (ndi (by simp only[ln];omega) (ndi (by simp only[ln];omega) (nin (nrn (nin (nrn (nin (ndi (by omega) (nrn (ndi (by unfold I64;omega) (nin (nrn (ndi ⟨by omega,?_,?_,rfl⟩ (ndt ?_)))))))))))))));simp;omega
  ·have e:(k+1).toNat=k.toNat+1:=by omega
   rw[e,b,K1 (I4 hs)]
  simp only[Mb,B6];simp only[ln,QT]at*;omega
 refine⟨?_,rfl,rfl,rfl,rfl,rfl,rfl,rfl,rfl,rfl⟩;rw[b];exact RA (by simp;omega)
def vJ :∀ {l m:Ah},l.map l9=m.map l9->l=m
 | [],[],_=>rfl| [],_::_,h=>by simp at h|_::_,[],h=>by simp at h|a::l,b::m,h=>by
  simp only[RC,RW]at h;have h1:((a:Nat):Int)=b:=by have:=h.1;simp only[l9,RW,Dat.int.injEq]at this;exact this.1
  rw[vJ h.2,show a=b by omega]
section
variable {l :Ah}{c:Nat}{k a:Int}{O:Sx.Rows}
def fF {P:Ah->Nat->Prop}:(∀(m:Ah) (d:Nat),l.map l9=m.map l9->(c:Int)=d->P m d)↔P l c:=
 ⟨fun h=>h l c rfl rfl,fun h m d h1 h2=>by rw[<-vJ h1,show d=c by omega];exact h⟩
def cI_il {b:Nat}(h:l[k.toNat]? =some b):cI (l.map l9) k 0=b:=by simp only[cI,c9 h];rfl
def BN :pJ [.lst (l.map l9),.int c] [.int k]↔0<=k/\k<=(l.length:Int)/\c∉l.take k.toNat:=by simp only[pJ,QT,fF (P:=fun l c=>c∉l.take k.toNat)]
def vcRpl_ok :vcRpl:=by
 unfold vcRpl;rintro L i ⟨l,c,rfl,rfl,hl⟩;have d:ln (l.map l9)=(l.length:Int):=by simp[ln]
 refine ndi (BN.2 ⟨by omega,by omega,by simp⟩) fun k hI=>?_;obtain⟨k0,k1,hI⟩:=BN.1 hI;rw[d];refine⟨fun h=>?_,fun h=>ndt (fF (P:=fun l c=>(-1:Int)<0↔c∉l)|>.2 ?_)⟩
 ·obtain⟨b,hb⟩:=Sx.get_at (T:=l) k0 h;rw[cI_il hb];refine ndi (by omega) (ndi h ⟨fun e=>ndt (fF (P:=fun l c=>k<0↔c∉l)|>.2 ?_),fun e=>ndi (by unfold I64;omega) (ndi (BN.2 ⟨by omega,by omega,?_⟩) (ndt ?_))⟩)
  ·have:c∈l:=by rw[show c=b by omega];exact QK hb
   simp[this];omega
  rw[t8 k0 hb];simp only[Ro,RR,not_or];exact⟨hI,by omega⟩;simp only[Mj,B6,d];omega
 rw[B7 (by omega)]at hI;simp[hI]
def mZ :dP [.lst (l.map l9),.int c,.int a] [.int k,.lst O]↔0<=k/\k<=(l.length:Int)/\(O.length:Int)<=2*k/\O=(rO (l.take k.toNat) c a).map l9:=by simp only[dP,QT,fF (P:=fun l c=>O=(rO (l.take k.toNat) c a).map l9)]
def DO (l m:Ah):rO (l++m) c a=rO l c a++rO m c a:=by unfold rO;rw[List.flatMap_append]
def vcRput_ok :vcRput:=by
 unfold vcRput;rintro L i a ⟨l,c,rfl,rfl,hl⟩;have m:ln (l.map l9)=(l.length:Int):=by simp[ln]
 refine ndi (mZ.2 ⟨by omega,by omega,by simp,by simp[rO]⟩) fun k O hI=>?_;obtain⟨k0,k1,k2,f⟩:=mZ.1 hI;have q:ln O=(O.length:Int):=rfl;rw[m];have o:∀ {A:Sx.Rows},(O++A).length=O.length+A.length:=fun{A}=>Rb;refine⟨fun h=>?_,fun h=>⟨fun j=>?_,fun j=>?_⟩⟩;obtain⟨b,hb⟩:=Sx.get_at (T:=l) k0 h;rw[cI_il hb];have g:∀x:Nat,b8 1 1 [.int (x:Int)]=([x]:Ah).map l9:=fun _=>rfl;refine ndi (by omega) (ndi h ⟨fun e=>nin (ndi (by omega) (nrn (ndi (by omega) (ndi h (nin (ndi (by omega) (nrn (ndi (by unfold I64;omega) (nin (nrn (ndi (mZ.2 ⟨by omega,by omega,?_,?_⟩) (ndt ?_)))))))))))),fun e=>ndi (by omega) (ndi h (nin (ndi (by omega) (nrn (ndi (by unfold I64;omega) (nin (nrn (ndi (mZ.2 ⟨by omega,by omega,?_,?_⟩) (ndt ?_)))))))))⟩);simp[b8];omega;rw[g,g,t8 k0 hb,DO,f];unfold rO;rw[List.flatMap_singleton,QW e];simp;simp only[pK,B6,m];omega;simp[b8];omega;rw[g,t8 k0 hb,DO,f];unfold rO;rw[List.flatMap_singleton,QU e];simp;simp only[pK,B6,m];omega;refine nin (ndi (by omega) (nrn (nin (nrn (ndt (fF (P:=fun l d=>O++b8 1 1 [.int ↑c]=(T8 l d a).map l9)|>.2 ?_))))));rw[f,B7 (by omega)];unfold T8 rO;rw[QW j];simp[b8,l9];refine nin (nrn (ndt (fF (P:=fun l c=>O=(T8 l c a).map l9)|>.2 ?_)));rw[f,B7 (by omega)];unfold T8 rO;rw[QU j];simp
def nD :dR [.lst (l.map l9),.int c] [.int k,.lst O]↔0<=k/\k<=(l.length:Int)/\(O.length:Int)<=k/\O=(K6 (l.take k.toNat) c).map l9:=by simp only[dR,QT,fF (P:=fun l c=>O=(K6 (l.take k.toNat) c).map l9)]
def vcRwit_ok :vcRwit:=by
 unfold vcRwit;rintro L i ⟨l,c,rfl,rfl,hl⟩;have f:ln (l.map l9)=(l.length:Int):=by simp[ln]
 refine ndi (nD.2 ⟨by omega,by omega,by simp,by simp[K6]⟩) fun k O hI=>?_;obtain⟨k0,k1,k2,d⟩:=nD.1 hI;have g:ln O=(O.length:Int):=rfl;rw[f];refine⟨fun h=>?_,fun h=>nin (nrn (ndt (fF (P:=fun l c=>O=(K6 l c).map l9)|>.2 ?_)))⟩;obtain⟨b,hb⟩:=Sx.get_at (T:=l) k0 h;rw[cI_il hb];refine ndi (by omega) (ndi h ⟨fun e=>ndi (by unfold I64;omega) (nin (nrn (ndi (nD.2 ⟨by omega,by omega,by omega,?_⟩) (ndt ?_)))),fun e=>ndi (by omega) (ndi h (nin (ndi (by omega) (nrn (ndi (by unfold I64;omega) (nin (nrn (ndi (nD.2 ⟨by omega,by omega,?_,?_⟩) (ndt ?_)))))))))⟩);rw[t8 k0 hb,d];unfold K6;rw[List.filter_append];simp[show b=c by omega];simp only[pL,B6,f];omega;simp[b8];omega;rw[t8 k0 hb,d];unfold K6;rw[List.filter_append];simp[show b≠c by omega,b8,l9];simp only[pL,B6,f];omega;rw[d,B7 (by omega)]
end
section
variable {l :List Att}{k:Int}{n v:Str}{O:Sx.Rows}{p:Bool}
def oF {P:List Att->Prop}:(∀m:List Att,l.map Att.row=m.map Att.row->P m)↔P l:=⟨fun h=>h l rfl,fun h m e=>by rw[<-U2 e];exact h⟩
def Bf :oO [.lst (l.map Att.row),.str n] [.int k]↔0<=k/\k<=(l.length:Int)/\ ∀a∈l.take k.toNat,a.n≠n:=by simp only[oO,QT,oF (P:=fun l=>∀a∈l.take k.toNat,a.n≠n)]
def cS_al {b:Att}(h:l[k.toNat]? =some b):cS (l.map Att.row) k 0=b.n/\cS (l.map Att.row) k 1=b.v:=by simp only[cS,c9 h];exact⟨rfl,rfl⟩
def vcFnd_ok :vcFnd:=by
 unfold vcFnd;rintro L n ⟨l,rfl,hl⟩;have d:ln (l.map Att.row)=(l.length:Int):=by simp[ln]
 refine ndi (Bf.2 ⟨by omega,by omega,by simp⟩) fun k hI=>?_;obtain⟨k0,k1,hI⟩:=Bf.1 hI;rw[d];refine⟨fun h=>?_,fun h=>ndt ⟨by omega,by omega,oF (P:=fun l=>((-1:Int)<0/\ ∀a∈l,a.n≠n)\/_)|>.2 (.inl ⟨by omega,?_⟩)⟩⟩;obtain⟨b,hb⟩:=Sx.get_at (T:=l) k0 h;rw[(cS_al hb).1];refine ndi (by omega) (ndi h ⟨fun e=>ndt ⟨by omega,by simpa using h,oF (P:=fun l=>(k<0/\ ∀a∈l,a.n≠n)\/(0<=k/\ ∃a,l[k.toNat]? =some a/\a.n=n))|>.2 (.inr ⟨k0,b,hb,e⟩)⟩,fun e=>ndi (by unfold I64;omega) (ndi (Bf.2 ⟨by omega,by omega,?_⟩) (ndt ?_))⟩);rw[t8 k0 hb];intro a f;rcases Ro.1 f with h|h;exact hI a h;rw[RR.1 h];exact e;simp only[KN,B6,d];omega;rwa[B7 (by omega)]at hI
def mW :dN [.lst (l.map Att.row),.str n,.str v] [.int k,.lst O,.bool p]↔0<=k/\k<=(l.length:Int)/\(O.length:Int)<=k+(if p=true then 1 else 0)/\ ∃o:List Att,O=o.map Att.row/\(if p=true then o++l.drop k.toNat else o++bX (l.drop k.toNat) ⟨n,v⟩)=bX l ⟨n,v⟩:=by simp only[dN,QT,oF (P:=fun l=>∃o:List Att,O=o.map Att.row/\(if p=true then o++l.drop k.toNat else o++bX (l.drop k.toNat) ⟨n,v⟩)=bX l ⟨n,v⟩)]
def vcRins_ok :vcRins:=by
 unfold vcRins;rintro L n v ⟨l,rfl,hl⟩;have j:ln (l.map Att.row)=(l.length:Int):=by simp[ln]
 refine ndi (mW.2 ⟨by omega,by omega,by simp,[],rfl,by simp⟩) fun k O p hI=>?_;obtain⟨k0,k1,k2,o,rfl,f⟩:=mW.1 hI;have i:ln (o.map Att.row)=(o.length:Int):=by simp[ln]
 have k2:(o.length:Int)<=k+(if p=true then 1 else 0):=by simpa using k2
 have k3:(o.length:Int)<=k+1:=by split at k2<;>omega
 rw[j,i];refine⟨fun h=>?_,fun h=>⟨fun hp=>nin (nrn (ndt ?_)),fun hp=>nin (ndi (by omega) (nrn (nin (nrn (ndt ?_)))))⟩⟩
 ·obtain⟨b,hb⟩:=Sx.get_at (T:=l) k0 h;have g:l.drop k.toNat=b::l.drop (k+1).toNat:=by obtain⟨h1,rfl⟩:=QD.1 hb;rw[show(k+1).toNat=k.toNat+1 by omega];exact List.drop_eq_getElem_cons h1
  have d:(p=true\/lt n b.n=false)->vcRins0 k (l.map Att.row) (o.map Att.row) n v p:=fun hp=>by unfold vcRins0;rw[j,i,(cS_al hb).1,(cS_al hb).2];refine ndi (by omega) (ndi h (nin (ndi (by omega) (nrn (ndi (by unfold I64;omega) (nin (nrn (ndi (mW.2 ⟨by omega,by omega,?_,o++ [b],by rw[Ry];rfl,?_⟩) (ndt ?_)))))))));rw[Rb,QT];show((o.length+1:Nat):Int)<=_;split at k2<;>rename_i h1;rw[QW h1];omega;rw[QU h1];omega;rw[<-f,g];rcases hp with rfl|hp;simp;cases p;simp[bX,hp];simp;simp only[pG,B6];simp only[ln,QT]at*;omega
  refine⟨fun hp=>d (.inl hp),fun hp=>ndi (by omega) (ndi h ⟨fun hlt=>?_,fun hlt=>d (.inr ?_)⟩)⟩;rw[(cS_al hb).1,(cS_al hb).2];rw[(cS_al hb).1]at hlt;have hlt:lt n b.n=true:=hlt;refine nin (ndi (by omega) (nrn (ndi (by omega) (ndi h (nin (ndi (by omega) (nrn (ndi (by unfold I64;omega) (nin (nrn (ndi (mW.2 ⟨by omega,by omega,?_,o++ [⟨n,v⟩]++ [b],by simp[b8,Att.row],?_⟩) (ndt ?_))))))))))));rw[Rb,Rb,QT,QW rfl];show((o.length+1+1:Nat):Int)<=_;rw[QU hp]at k2;omega;rw[QU hp,g]at f;rw[QW rfl,<-f];simp[bX,hlt];simp only[pG,B6];simp only[ln,QT]at*;omega
  ·rw[(cS_al hb).1]at hlt;cases e:lt n b.n with
   |false=>rfl|true=>exact absurd e hlt
 refine oF (P:=fun l=>o.map Att.row=(bX l ⟨n,v⟩).map Att.row)|>.2 ?_;rw[QW hp,List.drop_eq_nil_of_le (by omega),Su]at f;rw[f];refine oF (P:=fun l=>o.map Att.row++b8 2 1 [.str n,.str v]=(bX l ⟨n,v⟩).map Att.row)|>.2 ?_;rw[QU hp,List.drop_eq_nil_of_le (by omega)]at f;rw[<-f];simp[b8,Att.row,bX]
