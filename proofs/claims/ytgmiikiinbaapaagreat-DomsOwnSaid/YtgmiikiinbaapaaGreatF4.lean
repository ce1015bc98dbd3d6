/- The DOM: what only reads: the conditions of Waiting and Roots hold.
  Conditions: none. -/
import Derived.Test.YtgmiikiinbaapaaGreatF2
set_option maxRecDepth 100000
set_option linter.all false
noncomputable section
namespace Go.D
open Go Go.Xe Go.Sx
section
variable {D :DM}{S N:Sx.Rows}{fr lv i k:Int}{K:Nat}{T:List RS}{M:List RN}{l:Ah}{G:Nat->Nat}
def Ch.len :∀ {l:Ah} {i:Int},Ch T i l-> ∀f,l.length<=f->chL (T.map RS.row) f i=l.length
 | [],i,h,f,_=>by have h:i=0:=h;subst h;cases f<;>simp[chL]
 |a::l,i,⟨h1,r,h2,h3,h4⟩,f,hf=>by
  obtain⟨f,rfl⟩:∃k,f=k+1:=⟨f-1,by simp at hf;omega⟩
  have e:i-1=(a:Int):=by omega
  have hr:T[((a:Nat):Int).toNat]? =some r:=by rw[Qd];exact h2
  unfold chL;rw[PG (by omega),e,show cI (T.map RS.row) a 2=r.nx by simp only[cI];rw[i4 hr];rfl,h4.len f (by simp at hf;omega)];rfl
def Ch.rng :∀ {l:Ah} {i:Int},Ch T i l->0<=i/\i<=T.length
 | [],i,h=>by have h:i=0:=h;omega|a::l,i,⟨h1,r,h2,h3,h4⟩=>by have:=(Po.1 h2).1;omega
def Ch.le (h:Ch T i l)(hn:l.Nodup):l.length<=T.length:=by
 have hs:l ⊆ List.range T.length:=fun j hj=>by obtain⟨r,h1,_⟩:=h.unused j hj;exact List.mem_range.2 (Po.1 h1).1
 simpa using hn.length_le_of_subset hs
def vcWai_ok :vcWai:=by
 unfold vcWai;intro S fr lv c0 v x y z A B C st h;obtain⟨D,K,N,⟨T,M,rfl,rfl,b⟩,p⟩:=h;have hl:=b.len;have lim:=p.lim;have fl:=b.free.le b.nodup;have o:=b.free.rng;refine ndi ⟨o.1,by rw[PD];exact o.2,rfl,by rw[b.free.len 1001 (by omega)];simp;omega,T,_,rfl,b.free,b.nodup⟩ fun O i hI=>?_;obtain⟨i0,q,m,d,T',l,n,c,hn⟩:=hI;rw[n]at q m d⊢;have t:T'.length=T.length:=by have:=congrArg List.length n;simpa using this.symm
 have F:=c.le hn;have cl:=c.len 1001 (by omega);rw[cl]at d;have lo:ln O<=1000:=by simp only[ln];omega
 have u:0<=ln O:=by simp only[ln];omega
 have s:ln (T'.map RS.row)=(T.length:Int):=by simp[ln,t]
 refine⟨fun hi=>?_,fun hi=>ndi (by omega) (nin (nin (nrn (nin (nrn (ndt ?_))))))⟩
 ·cases l with
  |nil=>have:i=0:=c;omega|cons a l=>
   obtain⟨h1,r,h2,h3,h4⟩:=c;have E:=(Po.1 h2).1;have e:i+ -1=(a:Int):=by omega
   have e':i-1=(a:Int):=by omega
   have hr:T'[((a:Nat):Int).toNat]? =some r:=by rw[Qd];exact h2
   have nx:cI (T'.map RS.row) a 2=r.nx:=by simp only[cI];rw[i4 hr];rfl
   rw[e];have w:IntKind.wrap .u32 (a:Int)=a:=M9 (by simp[IntKind.min,IntKind.signed]) (by simp[IntKind.max,IntKind.signed,IntKind.bits];omega);rw[w,nx];have b0:(a:Int)<ln (T'.map RS.row):=by rw[s];omega
   have g:I64 (a:Int):=by unfold I64;omega
   have j:=(List.nodup_cons.1 hn).2;have d:O.length+(l.length+1)<=1000:=d;have hg:=h4.rng;refine ndi g (ndi g (ndi (by omega) (ndi b0 (ndi b0 (nin (ndi (by omega) (nrn (ndi g (ndi (by omega) (ndi b0 (ndi b0 (nin (nrn (ndi ⟨hg.1,by rw[PD];exact hg.2,?_,?_,T',l,rfl,h4,j⟩ (ndt ?_)))))))))))))))
   ·rw[<-m,Py];congr 1;have:(1001-O.length)=(1001-(O++b8 2 1 [.int (a:Int),.int (cI (T'.map RS.row) a 0)]).length)+1:=by
     have:(O++b8 2 1 [.int (a:Int),.int (cI (T'.map RS.row) a 0)]).length=O.length+1:=by rw[PL];rfl
     omega
    rw[this]
    conv=>rhs;unfold waF
    rw[PG hi,e',nx];rfl
   rw[h4.len 1001 (by omega),PL];show O.length+1+l.length<=1000;omega;show chL (T'.map RS.row) 1001 r.nx<chL (T'.map RS.row) 1001 i;rw[h4.len 1001 (by omega),cl];simp
 ·show O=waF (T'.map RS.row) 1001 fr;rw[<-m];have:∀f,waF (T'.map RS.row) f i=[]:=fun f=>by cases f<;>simp[waF,hi]
  rw[this,QX]
def GW :∀ {T:List RS} {k:Int} {r:Ar},r∈hdF (T.map RS.row) k-> ∃(j:Nat) (q:RS),T[j]? =some q/\q.u=true/\r=[.int (k+j),.int q.g]
 | [],_,_,h=>by simp[hdF]at h|q::T,k,r,h=>by
  rw[Qn]at h;unfold hdF at h;have a:r∈hdF (T.map RS.row) (k+1)-> ∃(j:Nat) (q':RS),(q::T)[j]? =some q'/\q'.u=true/\r=[.int (k+j),.int q'.g]:=fun h=>by obtain⟨j,q',h1,h2,h3⟩:=GW h;exact⟨j+1,q',by simpa using h1,h2,by rw[h3];simp;omega⟩
  by_cases b:q.u=true;rw[PG (by simpa [RS.row,Dat.toBool]using b)]at h;rcases Qa.1 h with h|h;exact⟨0,q,rfl,b,by rw[h];simp[RS.row]⟩;exact a h;rw[PE (by simpa [RS.row,Dat.toBool]using b)]at h;exact a h
def zT :∀ {T:List RS} {k:Int},(hdF (T.map RS.row) k).length=T.countP (·.u)
 | [],_=>rfl|q::T,k=>by rw[Qn];unfold hdF;by_cases a:q.u=true;rw[PG (by simpa [RS.row,Dat.toBool]using a),Qf,zT,List.countP_cons_of_pos (by exact a)];rw[PE (by simpa [RS.row,Dat.toBool]using a),zT,List.countP_cons_of_neg (by exact a)]
def RlT.count (h:RlT G D T M fr lv):T.countP (·.u)=D.L.countP (·.used):=by
 have:T.map (·.u)=D.L.map (·.used):=by
  apply List.ext_getElem?;intro j;simp only[Qm];cases hs:D.L[j]? with
  |none=>rw[Rn (by rw[h.len];exact List.getElem?_eq_none_iff.1 hs)];rfl|some s=>obtain⟨r,h1,h2,h3,_⟩:=h.row j s hs;rw[h1];simp[h3]
 have c:=congrArg (List.countP id) this;simpa [List.countP_map,Function.comp_def]using c
def Rl.hds (h:Rl D.gen D S N fr lv)(w:WF D K):(S.length<=1000/\lv=(hdF S 0).length/\ ∀r∈S,∃n:Int,r.getD 0 (.int 0)= .int n)/\ ∀r∈hdF S 0,∃(i g:Int) (c:Nat),r=[.int i,.int g]/\D.at i g=some c:=by have hl:=h.slen w;obtain⟨T,M,rfl,rfl,h⟩:=h;refine⟨⟨hl,by rw[h.lv,zT,h.count],fun r hr=>?_⟩,fun r hr=>?_⟩;obtain⟨q,_,rfl⟩:=QQ.1 hr;exact⟨q.g,rfl⟩;obtain⟨j,q,h1,h2,h3⟩:=GW hr;obtain⟨s,k1,k2,k3,a⟩:=h.back h1;refine⟨_,_,j,h3,?_⟩;have:=DM.at_of k1 (by rw[<-k3];exact h2);rw[Rs k1,<-k2]at this;rw[Int.zero_add];exact this
def vcRoo_ok :vcRoo:=by
 unfold vcRoo;intro S fr lv c0 A B C E F I J st N h;obtain⟨D,K,m,n⟩:=h;obtain⟨j,w⟩:=m.hds n;have d:=j.1;refine nin (nrn (ndi j fun H a=>ndi ?_ fun O k hI=>?_));exact⟨by omega,by omega,by simp,rfl⟩;have a:H=hdF S 0:=a;obtain⟨k0,k1,k2,k3⟩:=hI;have y:(H.length:Int)=lv:=by rw[a];exact j.2.1.symm
 have z:=n.live m;have lo:ln O<=1000:=by simp only[ln];omega
 have x:0<=ln O:=by simp only[ln];omega
 refine⟨fun hk=>?_,fun hk=>ndi (by omega) (nin (nin (nrn (nin (nrn (ndt ?_))))))⟩
 ·have o:k<H.length:=hk;obtain⟨r,r1,p⟩:=W3 k0 o;have hr:r∈H:=QU (by rw[r1];exact List.mem_cons_self);obtain⟨i,g,c,rfl,hc⟩:=w r (by rw[<-a];exact hr);have e0:cI H k 0=i:=by simp only[cI,p];rfl
  have q:cI H k 1=g:=by simp only[cI,p];rfl
  have u:=n.u32 hc;obtain⟨s,h1,h2,h3,h4,L,t,v,_⟩:=m.flds hc;rw[r1]at k3;have step:∀b,roB S N [.int i,.int g]=b->(H.drop k.toNat).filter (roB S N)=(if b then [[.int i,.int g]]else [])++(H.drop (k+1).toNat).filter (roB S N):=fun b hb=>by rw[r1,List.filter_cons,hb];cases b<;>simp
  rw[<-r1]at k3;rw[e0,q];have no:roB S N [.int i,.int g]=false->vcRoo0 k O S N H:=fun hb=>by unfold vcRoo0;rw[step false hb]at k3;refine ndi (by unfold I64;omega) (nin (nrn (ndi ⟨by omega,by omega,by omega,by simpa using k3⟩ (ndt ?_))));simp only[bC];omega
  refine ndi (by omega) (ndi hk (E2 ⟨u.1,u.2.1,d⟩ ?_));refine C0 t v ⟨fun e=>⟨fun f=>?_,fun f=>no ?_⟩,fun e=>no ?_⟩
  ·have hb:roB S N [.int i,.int g]=true:=by show(decide (cI N (atF S i g) 7=0)&&decide (cI N (atF S i g) 8=0))=true;simp[e,f]
   rw[step true hb]at k3;refine nin (ndi (by omega) (nrn (ndi (by unfold I64;omega) (nin (nrn (ndi ⟨by omega,by omega,?_,?_⟩ (ndt ?_)))))));rw[PL];show((O.length+1:Nat):Int)<=k+1;omega;rw[Py];exact k3;simp only[bC];omega
  show(decide (cI N (atF S i g) 7=0)&&decide (cI N (atF S i g) 8=0))=false;simp[f];show(decide (cI N (atF S i g) 7=0)&&decide (cI N (atF S i g) 8=0))=false;simp[e]
 have hk:¬k<(H.length:Int):=hk;rw[List.drop_eq_nil_of_le (by omega)]at k3;show O=(hdF S 0).filter (roB S N);rw[<-a,<-k3];simp
end
def HH :c9:= .mk 0 [] [] [] [] []
def cX (D:DM):Nat->Nat->c9
 |0,_=>HH|l+1,c=>if 16<(D.nod c).ch.length then HH else .mk (D.nod c).kind (D.nod c).tag [] (D.nod c).atts (D.nod c).text ((D.nod c).ch.map (cX D l))
def BE :Ar->Prop
 | [.int i,.int g,.int n,.lst S,.int fr,.int lv,.int _,.int _,.int _,.int _,.int _,.int _,.int _,.int _,.lst _,.lst N]=>U32 i/\U32 g/\0<=n/\n<=6/\ ∃D K c,Rl D.gen D S N fr lv/\WF D K/\D.at i g=some c|_=>False
def vE :Ar->Ar->Prop
 | [.int i,.int g,.int n,.lst S,.int fr,.int lv,.int _,.int _,.int _,.int _,.int _,.int _,.int _,.int _,.lst _,.lst N],[.int k,.str t,.str y,.lst a,.str x,.lst ch]=>∀D K c,RlE D S N->WF D K->D.at i g=some c->isT (cX D n.toNat c) k t y a x ch|_,_=>False
def DJ :Ar->Nat
 |_::_:: .int n::_=>n.toNat|_=>0
def cTre:=mkR "tre" [dV,hV,iV] rU Cx BE [nV] vE
def BF :Ar->Ar->Prop
 | [.lst S,.lst N,.int i,.int g,.int n,.lst L],[.int j,.int k,.str t,.str y,.lst a,.str x,.lst O]=>0<=j/\j<=L.length/\(O.length:Int)=j/\ ∀D K c,RlE D S N->WF D K->D.at i g=some c->L=(D.nod c).ch.map (D9 D.gen)/\k=(D.nod c).kind/\t=(D.nod c).tag/\y=[]/\a=(D.nod c).atts.map Att.row/\x=(D.nod c).text/\O=rows (((D.nod c).ch.take j.toNat).map (cX D (n.toNat-1)))|_,_=>False
def LU :Ar->Ar->Nat
 | [_,_,_,_,_,.lst L],.int j::_=>(L.length-j).toNat|_,_=>0
def Nt :Ay->List (Nat×(Fm->SS->G5))
 |59=>[(0,D8 U0 "trl" (E6 [(53,.int .i64)] (G9 8 [.int .u8,.str,.str,.lst uY,.str,.acc 40 6])) (gh2 (gh2 (uN 0) tD) (gh2 (hdT 1) (gh2 (m9 2) (m9 51)))) BF LU)]
 |_=>[]
def OW :Nat->List (Ay×Con)
 |_=>[(LVn,cYes "lives")]
def OO :Nat->Aw->E7
 |_,P=>T5 0 P
open Go Go.Xe Go.Sx
def vcTre0 (n:Nat)(a b c:Int)(d:Sx.Rows)(f g h i j k l m o p:Int)(q r:Sx.Rows):Prop:=
 Nd (vE (.int a::.int b::.int c::JD d f g h i j k l m o p q r) [.int 0,.str [],.str [],.lst [],.str [],.lst []]) True
def vcTre (n:Nat):Prop:=
 ∀g h c d j k l m o p q r s t u a,(BE (.int g::.int h::.int c::JD d j k l m o p q r s t u a)/\DJ (.int g::.int h::.int c::JD d j k l m o p q r s t u a)<n+1)->Nq (ln d) (Cg u7 t9 (.int g::.int h::JE d j k l m o p q r s t u) fun R=>∀b,R [.int b]->Nb b (ln a) (Nb b (ln a)<|Nb b (ln a)<|Nb b (ln a)<|(c=0->vcTre0 n g h c d j k l m o p q r s t u a)/\(¬c=0->Nb b (ln a) ((16<ln (cL a b 9)->vcTre0 n g h c d j k l m o p q r s t u a)/\(¬16<ln (cL a b 9)->Nb b (ln a) (Nd (BF [.lst d,.lst a,.int g,.int h,.int c,.lst (cL a b 9)] [.int 0,.int (cI a b 0),.str (cS a b 1),.str [],.lst (cL a b 2),.str (cS a b 3),.lst []])<|∀f v w x y z i,BF [.lst d,.lst a,.int g,.int h,.int c,.lst (cL a b 9)] [.int f,.int v,.str w,.str x,.lst y,.str z,.lst i]->((f<ln (cL a b 9)->Nb f (ln (cL a b 9)) (Nd (I64 (c+(-1)))<|Nq (ln d)<|Nd (BE (.int (cI (cL a b 9) f 0)::.int (cI (cL a b 9) f 1)::.int (c+(-1))::JD d j k l m o p q r s t u a)/\DJ (.int (cI (cL a b 9) f 0)::.int (cI (cL a b 9) f 1)::.int (c+(-1))::JD d j k l m o p q r s t u a)<n)<|
 ∀A B C D F G,vE (.int (cI (cL a b 9) f 0)::.int (cI (cL a b 9) f 1)::.int (c+(-1))::JD d j k l m o p q r s t u a) [.int A,.str B,.str C,.lst D,.str F,.lst G]->Ni (ln i) (Nd (ln i+1<67108865)<|Nr (ln i)<|Nd (I64 (f+1))<|Nq (ln i+1)<|Nd (BF [.lst d,.lst a,.int g,.int h,.int c,.lst (cL a b 9)] [.int (f+1),.int v,.str w,.str x,.lst y,.str z,.lst (i++b8 6 1 [.int A,.str B,.str C,.lst D,.str F,.lst G])])<|Nd (LU [.lst d,.lst a,.int g,.int h,.int c,.lst (cL a b 9)] [.int (f+1),.int v,.str w,.str x,.lst y,.str z,.lst (i++b8 6 1 [.int A,.str B,.str C,.lst D,.str F,.lst G])]<LU [.lst d,.lst a,.int g,.int h,.int c,.lst (cL a b 9)] [.int f,.int v,.str w,.str x,.lst y,.str z,.lst i]) True)))/\(¬f<ln (cL a b 9)->Nq (ln i) (Nd (vE (.int g::.int h::.int c::JD d j k l m o p q r s t u a) [.int v,.str w,.str x,.lst y,.str z,.lst i]) True)))))))))
def vcTre_eq (n:Nat):kr Go.Proofs.Tryz.prog (cTre.below DJ (n+1)) Nt (OW 0) (fun _=>((59,kro Go.Proofs.Tryz.prog U0 (cTre.below DJ n))::OO 0 Go.Proofs.Tryz.prog)) 59=vcTre n:=by kernel_rfl
