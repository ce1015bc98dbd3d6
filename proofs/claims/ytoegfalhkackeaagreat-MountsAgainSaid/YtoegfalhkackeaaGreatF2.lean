/- The conditions of contracts, as the engine's printer has written them, and that the kernel comes to the same.
  Conditions: none. -/
import Derived.Test.YtoegfalhkackeaaGreatE1
set_option maxRecDepth 100000
set_option linter.all false
noncomputable section
namespace Go.D
open Go Go.Xe Go.Sx
def vcLok :Prop:=
 ∀d f c g h i j k l m o p q r a,pI (.int d::.int f::JD c g h i j k l m o p q r a)->Nq (ln c) (Cg V9 M5 (.int d::.int f::JE c g h i j k l m o p q r) fun R=>∀t,R [.bool t]->((t=true->Nq (ln c) (Cg H8 G2 (.int d::.int f::JE c g h i j k l m o p q r) fun R=>∀b,R [.int b]->Nb b (ln a) (∀(u:Bool),(u=true->ln (cL a b 2)=0->∀(s:Bool),(s=true->ln (cL a b 9)=0->Nd (Q5 (.int d::.int f::JD c g h i j k l m o p q r a) [.int (cI a b 0),.str (cS a b 1),.lst [],.str (cS a b 3),.int (cI a b 4),.int (cI a b 5),.bool (cB a b 6),.int (cI a b 7),.int (cI a b 8),.lst [],.int 0]) True)/\(¬s=true->Nd (ln (cL a b 9)<67108865) ((0<ln (cL a b 9)->Nd (¬ln (cL a b 9)<0) (Ni (ln (cL a b 9))<|Nq (ln (cL a b 9))<|Nq (ln (cL a b 9))<|Nd (Q5 (.int d::.int f::JD c g h i j k l m o p q r a) [.int (cI a b 0),.str (cS a b 1),.lst [],.str (cS a b 3),.int (cI a b 4),.int (cI a b 5),.bool (cB a b 6),.int (cI a b 7),.int (cI a b 8),.lst (d8 2 0 []++cL a b 9),.int 0]) True))/\(¬0<ln (cL a b 9)->Nd (¬ln (cL a b 9)<0) (Ni (ln (cL a b 9))<|Nd (¬0<ln (cL a b 9))<|Nr (ln (cL a b 9))<|Nd (¬ln (Sx.over (d8 2 0 []) 0 (cL a b 9))<ln (cL a b 9))<|Nd (Q5 (.int d::.int f::JD c g h i j k l m o p q r a) [.int (cI a b 0),.str (cS a b 1),.lst [],.str (cS a b 3),.int (cI a b 4),.int (cI a b 5),.bool (cB a b 6),.int (cI a b 7),.int (cI a b 8),.lst (pQ (Sx.over (d8 2 0 []) 0 (cL a b 9)) 0 (ln (cL a b 9))),.int 0]) True)))))/\(¬u=true->Nd (ln (cL a b 2)<67108865) ((0<ln (cL a b 2)->Nd (¬ln (cL a b 2)<0) (Ni (ln (cL a b 2))<|Ni (ln (cL a b 2))<|∀(s:Bool),(s=true->ln (cL a b 9)=0->Nr (ln (cL a b 2)) (Nq (ln (cL a b 2))<|Nd (Q5 (.int d::.int f::JD c g h i j k l m o p q r a) [.int (cI a b 0),.str (cS a b 1),.lst (d8 2 0 []++cL a b 2),.str (cS a b 3),.int (cI a b 4),.int (cI a b 5),.bool (cB a b 6),.int (cI a b 7),.int (cI a b 8),.lst [],.int 0]) True))/\(¬s=true->Nd (ln (cL a b 9)<67108865) ((0<ln (cL a b 9)->Nd (¬ln (cL a b 9)<0) (Ni (ln (cL a b 9))<|Ni (ln (cL a b 9))<|Nr (ln (cL a b 2))<|Nq (ln (cL a b 2))<|Nr (ln (cL a b 9))<|Nq (ln (cL a b 9))<|Nd (Q5 (.int d::.int f::JD c g h i j k l m o p q r a) [.int (cI a b 0),.str (cS a b 1),.lst (d8 2 0 []++cL a b 2),.str (cS a b 3),.int (cI a b 4),.int (cI a b 5),.bool (cB a b 6),.int (cI a b 7),.int (cI a b 8),.lst (d8 2 0 []++cL a b 9),.int 0]) True))/\(¬0<ln (cL a b 9)->Nd (¬ln (cL a b 9)<0) (Ni (ln (cL a b 9))<|Nd (¬0<ln (cL a b 9))<|Nr (ln (cL a b 2))<|Nq (ln (cL a b 2))<|Nr (ln (cL a b 9))<|Nd (¬ln (Sx.over (d8 2 0 []) 0 (cL a b 9))<ln (cL a b 9))<|Nd (Q5 (.int d::.int f::JD c g h i j k l m o p q r a) [.int (cI a b 0),.str (cS a b 1),.lst (d8 2 0 []++cL a b 2),.str (cS a b 3),.int (cI a b 4),.int (cI a b 5),.bool (cB a b 6),.int (cI a b 7),.int (cI a b 8),.lst (pQ (Sx.over (d8 2 0 []) 0 (cL a b 9)) 0 (ln (cL a b 9))),.int 0]) True))))))/\(¬0<ln (cL a b 2)->Nd (¬ln (cL a b 2)<0) (Ni (ln (cL a b 2))<|Nd (¬0<ln (cL a b 2))<|∀(s:Bool),(s=true->ln (cL a b 9)=0->Nr (ln (cL a b 2)) (Nd (¬ln (Sx.over (d8 2 0 []) 0 (cL a b 2))<ln (cL a b 2))<|Nd (Q5 (.int d::.int f::JD c g h i j k l m o p q r a) [.int (cI a b 0),.str (cS a b 1),.lst (pQ (Sx.over (d8 2 0 []) 0 (cL a b 2)) 0 (ln (cL a b 2))),.str (cS a b 3),.int (cI a b 4),.int (cI a b 5),.bool (cB a b 6),.int (cI a b 7),.int (cI a b 8),.lst [],.int 0]) True))/\(¬s=true->Nd (ln (cL a b 9)<67108865) ((0<ln (cL a b 9)->Nd (¬ln (cL a b 9)<0) (Ni (ln (cL a b 9))<|Ni (ln (cL a b 9))<|Nr (ln (cL a b 2))<|Nd (¬ln (Sx.over (d8 2 0 []) 0 (cL a b 2))<ln (cL a b 2))<|Nr (ln (cL a b 9))<|Nq (ln (cL a b 9))<|Nd (Q5 (.int d::.int f::JD c g h i j k l m o p q r a) [.int (cI a b 0),.str (cS a b 1),.lst (pQ (Sx.over (d8 2 0 []) 0 (cL a b 2)) 0 (ln (cL a b 2))),.str (cS a b 3),.int (cI a b 4),.int (cI a b 5),.bool (cB a b 6),.int (cI a b 7),.int (cI a b 8),.lst (d8 2 0 []++cL a b 9),.int 0]) True))/\(¬0<ln (cL a b 9)->Nd (¬ln (cL a b 9)<0) (Ni (ln (cL a b 9))<|Nd (¬0<ln (cL a b 9))<|Nr (ln (cL a b 2))<|Nd (¬ln (Sx.over (d8 2 0 []) 0 (cL a b 2))<ln (cL a b 2))<|Nr (ln (cL a b 9))<|Nd (¬ln (Sx.over (d8 2 0 []) 0 (cL a b 9))<ln (cL a b 9))<|Nd (Q5 (.int d::.int f::JD c g h i j k l m o p q r a) [.int (cI a b 0),.str (cS a b 1),.lst (pQ (Sx.over (d8 2 0 []) 0 (cL a b 2)) 0 (ln (cL a b 2))),.str (cS a b 3),.int (cI a b 4),.int (cI a b 5),.bool (cB a b 6),.int (cI a b 7),.int (cI a b 8),.lst (pQ (Sx.over (d8 2 0 []) 0 (cL a b 9)) 0 (ln (cL a b 9))),.int 0]) True)))))))))))/\(¬t=true->Nd (Q5 (.int d::.int f::JD c g h i j k l m o p q r a) [.int 0,.str [],.lst [],.str [],.int 0,.int 0,.bool false,.int 0,.int 0,.lst [],.int 11]) True)))
def vcLok_eq :kr Go.Proofs.Tryz.prog cLok Qn (SH 0) (Si 0) 50=vcLok:=by kernel_rfl
def vcLok_ok :vcLok:=by
 unfold vcLok;intro i g S fr lv c0 r t c3 u v w x st N h;obtain⟨hi,hg,D,K,m,o⟩:=h;have f:=m.slen o;refine kH ⟨hi,hg,f⟩ ⟨fun hv=>?_,fun hv=>ndt ?_⟩
 ·obtain⟨c,hk⟩:=m.vld.1 hv;obtain⟨s,h1,h2,h3,h4,h5,y,q⟩:=m.node hk;have C:ln (cL N (atF S i g) 2)<=8:=by
   have:cL N (atF S i g) 2=s.n.atts.map Att.row:=by unfold cL;rw[q];rfl
   rw[this];simp only[ln,TG];have:=(o.atts c s h1 h3).1;omega
  have E:ln (cL N (atF S i g) 9)<=1000:=by
   have:cL N (atF S i g) 9=s.n.ch.map (z9 D.gen):=by unfold cL;rw[q];rfl
   rw[this];simp only[ln,TG];have:=o.kidlen h1 h3;omega
  have a:∀ {A B:Sx.Rows},A=cL N (atF S i g) 2->B=cL N (atF S i g) 9->Q5 [.int i,.int g,.lst S,.int fr,.int lv,.int c0,.int r,.int t,.int c3,.int u,.int v,.int w,.int x,.lst st,.lst N] [.int (cI N (atF S i g) 0),.str (cS N (atF S i g) 1),.lst A,.str (cS N (atF S i g) 3),.int (cI N (atF S i g) 4),.int (cI N (atF S i g) 5),.bool (cB N (atF S i g) 6),.int (cI N (atF S i g) 7),.int (cI N (atF S i g) 8),.lst B,.int 0]:=fun e b=>by show ite _ _ _;rw[TJ hv];exact⟨rfl,rfl,e,rfl,rfl,rfl,rfl,rfl,rfl,b,rfl⟩
  refine aV ⟨hi,hg,f⟩ (P3 h5 y ?_);have j:∀ {L:Sx.Rows},ln L=0->[]=L:=fun h=>(Tq (by simp only[ln]at h;omega)).symm;have l:∀ {L:Sx.Rows},0<=ln L:=fun{L}=>by simp only[ln];omega
  have ov:∀ {L:Sx.Rows},¬0<ln L->Sx.over (d8 2 0 []) 0 L=L:=fun{L} h=>by have:=j (L:=L) (by have:=l (L:=L);omega);subst this;rfl
  have pt:∀ {L:Sx.Rows},¬0<ln L->pQ (Sx.over (d8 2 0 []) 0 L) 0 (ln L)=L:=fun{L} h=>by have:=j (L:=L) (by have:=l (L:=L);omega);subst this;rfl
  have F:=l (L:=cL N (atF S i g) 2);have zB:=l (L:=cL N (atF S i g) 9);exact fun z=>⟨fun _ k p=>⟨fun _ d=>ndt (a (j k) (j d)),fun _=>ndi (by omega) ⟨fun b=>ndi (by omega) (nin (nin (nrn (nin (nrn (ndt (a (j k) rfl))))))),fun b=>ndi (by omega) (nin (ndi b (nrn (ndi (by rw[ov b];omega) (ndt (a (j k) (pt b)))))))⟩⟩,
   fun _=>ndi (by omega) ⟨fun e=>ndi (by omega) (nin (nin fun p=>⟨fun _ d=>nrn (nin (nrn (ndt (a rfl (j d))))),fun _=>ndi (by omega) ⟨fun b=>ndi (by omega) (nin (nin (nrn (nin (nrn (nrn (nin (nrn (ndt (a rfl rfl)))))))))),fun b=>ndi (by omega) (nin (ndi b (nrn (nin (nrn (nrn (ndi (by rw[ov b];omega) (ndt (a rfl (pt b))))))))))⟩⟩)),
    fun e=>ndi (by omega) (nin (ndi e fun p=>⟨fun _ d=>nrn (ndi (by rw[ov e];omega) (ndt (a (pt e) (j d)))),fun _=>ndi (by omega) ⟨fun b=>ndi (by omega) (nin (nin (nrn (ndi (by rw[ov e];omega) (nrn (nin (nrn (ndt (a (pt e) rfl))))))))),fun b=>ndi (by omega) (nin (ndi b (nrn (ndi (by rw[ov e];omega) (nrn (ndi (by rw[ov b];omega) (ndt (a (pt e) (pt b)))))))))⟩⟩))⟩⟩
 show ite _ _ _;rw[TH hv]
section
variable {D :DM}{S N:Sx.Rows}{fr lv i k:Int}{K:Nat}{T:List RS}{M:List RN}{l:Ah}{G:Nat->Nat}
def Ch.len :∀ {l:Ah} {i:Int},Ch T i l-> ∀f,l.length<=f->chL (T.map RS.row) f i=l.length
 | [],i,h,f,_=>by have h:i=0:=h;subst h;cases f<;>simp[chL]
 |a::l,i,⟨h1,r,h2,h3,h4⟩,f,hf=>by
  obtain⟨f,rfl⟩:∃k,f=k+1:=⟨f-1,by simp at hf;omega⟩
  have e:i-1=(a:Int):=by omega
  have hr:T[((a:Nat):Int).toNat]? =some r:=by rw[Uc];exact h2
  unfold chL;rw[TJ (by omega),e,show cI (T.map RS.row) a 2=r.nx by simp only[cI];rw[i9 hr];rfl,h4.len f (by simp at hf;omega)];rfl
def Ch.rng :∀ {l:Ah} {i:Int},Ch T i l->0<=i/\i<=T.length
 | [],i,h=>by have h:i=0:=h;omega|a::l,i,⟨h1,r,h2,h3,h4⟩=>by have:=(Tn.1 h2).1;omega
def Ch.le (h:Ch T i l)(hn:l.Nodup):l.length<=T.length:=by
 have hs:l ⊆ List.range T.length:=fun j hj=>by obtain⟨r,h1,_⟩:=h.unused j hj;exact List.mem_range.2 (Tn.1 h1).1
 simpa using hn.length_le_of_subset hs
def HS :∀ {T:List RS} {k:Int} {r:Ar},r∈hdF (T.map RS.row) k-> ∃(j:Nat) (q:RS),T[j]? =some q/\q.u=true/\r=[.int (k+j),.int q.g]
 | [],_,_,h=>by simp[hdF]at h|q::T,k,r,h=>by
  rw[Um]at h;unfold hdF at h;have a:r∈hdF (T.map RS.row) (k+1)-> ∃(j:Nat) (q':RS),(q::T)[j]? =some q'/\q'.u=true/\r=[.int (k+j),.int q'.g]:=fun h=>by obtain⟨j,q',h1,h2,h3⟩:=HS h;exact⟨j+1,q',by simpa using h1,h2,by rw[h3];simp;omega⟩
  by_cases b:q.u=true;rw[TJ (by simpa [RS.row,Dat.toBool]using b)]at h;rcases TZ.1 h with h|h;exact⟨0,q,rfl,b,by rw[h];simp[RS.row]⟩;exact a h;rw[TH (by simpa [RS.row,Dat.toBool]using b)]at h;exact a h
def AU :∀ {T:List RS} {k:Int},(hdF (T.map RS.row) k).length=T.countP (·.u)
 | [],_=>rfl|q::T,k=>by rw[Um];unfold hdF;by_cases a:q.u=true;rw[TJ (by simpa [RS.row,Dat.toBool]using a),Ue,AU,List.countP_cons_of_pos (by exact a)];rw[TH (by simpa [RS.row,Dat.toBool]using a),AU,List.countP_cons_of_neg (by exact a)]
def RlT.count (h:RlT G D T M fr lv):T.countP (·.u)=D.L.countP (·.used):=by
 have:T.map (·.u)=D.L.map (·.used):=by
  apply List.ext_getElem?;intro j;simp only[Ul];cases hs:D.L[j]? with
  |none=>rw[Vi (by rw[h.len];exact List.getElem?_eq_none_iff.1 hs)];rfl|some s=>obtain⟨r,h1,h2,h3,_⟩:=h.row j s hs;rw[h1];simp[h3]
 have c:=congrArg (List.countP id) this;simpa [List.countP_map,Function.comp_def]using c
def Rl.hds (h:Rl D.gen D S N fr lv)(w:WF D K):(S.length<=1000/\lv=(hdF S 0).length/\ ∀r∈S,∃n:Int,r.getD 0 (.int 0)= .int n)/\ ∀r∈hdF S 0,∃(i g:Int) (c:Nat),r=[.int i,.int g]/\D.at i g=some c:=by have hl:=h.slen w;obtain⟨T,M,rfl,rfl,h⟩:=h;refine⟨⟨hl,by rw[h.lv,AU,h.count],fun r hr=>?_⟩,fun r hr=>?_⟩;obtain⟨q,_,rfl⟩:=UO.1 hr;exact⟨q.g,rfl⟩;obtain⟨j,q,h1,h2,h3⟩:=HS hr;obtain⟨s,k1,k2,k3,k4⟩:=h.back h1;refine⟨_,_,j,h3,?_⟩;have:=Vn k1 (by rw[<-k3];exact h2);rw[Vo k1,<-k2]at this;rw[Int.zero_add];exact this
end
def IY :a9:= .mk 0 [] [] [] [] []
def J1 (D:DM):Nat->Nat->a9
 |0,_=>IY|l+1,c=>if 16<(D.nod c).ch.length then IY else .mk (D.nod c).kind (D.nod c).tag [] (D.nod c).atts (D.nod c).text ((D.nod c).ch.map (J1 D l))
def BZ :Ar->Prop
 | [.int i,.int g,.int n,.lst S,.int fr,.int lv,.int _,.int _,.int _,.int _,.int _,.int _,.int _,.int _,.lst _,.lst N]=>U32 i/\U32 g/\0<=n/\n<=6/\ ∃D K c,Rl D.gen D S N fr lv/\WF D K/\D.at i g=some c|_=>False
def vY :Ar->Ar->Prop
 | [.int i,.int g,.int n,.lst S,.int fr,.int lv,.int _,.int _,.int _,.int _,.int _,.int _,.int _,.int _,.lst _,.lst N],[.int k,.str t,.str y,.lst a,.str x,.lst ch]=>∀D K c,RlE D S N->WF D K->D.at i g=some c->isT (J1 D n.toNat c) k t y a x ch|_,_=>False
def EB :Ar->Nat
 |_::_:: .int n::_=>n.toNat|_=>0
def cTre:=mkR "tre" [dV,hV,iV] tC CV BZ [nV] vY
def Cb :Ar->Ar->Prop
 | [.lst S,.lst N,.int i,.int g,.int n,.lst L],[.int j,.int k,.str t,.str y,.lst a,.str x,.lst O]=>0<=j/\j<=L.length/\(O.length:Int)=j/\ ∀D K c,RlE D S N->WF D K->D.at i g=some c->L=(D.nod c).ch.map (z9 D.gen)/\k=(D.nod c).kind/\t=(D.nod c).tag/\y=[]/\a=(D.nod c).atts.map Att.row/\x=(D.nod c).text/\O=rows (((D.nod c).ch.take j.toNat).map (J1 D (n.toNat-1)))|_,_=>False
def On :Ar->Ar->Nat
 | [_,_,_,_,_,.lst L],.int j::_=>(L.length-j).toNat|_,_=>0
def Qo :Ay->List (Nat×(Fm->SS->J0))
 |48=>[(0,L4 U0 "trl" (N7 [(53,.int .i64)] (L2 8 [.int .u8,.str,.str,.lst EA,.str,.acc 30 6])) (gh2 (gh2 (vL 0) lN) (gh2 (hdT 1) (gh2 (y7 2) (y7 51)))) Cb On)]
 |_=>[]
def SI :Nat->List (Ay×Con)
 |_=>[(LVn,cYes "lives")]
def Sj :Nat->Aw->G1
 |_,P=>cH 0 P
open Go Go.Xe Go.Sx
def vcTre0 (n:Nat)(a b c:Int)(d:Sx.Rows)(f g h i j k l m o p:Int)(q r:Sx.Rows):Prop:=
 Nd (vY (.int a::.int b::.int c::JD d f g h i j k l m o p q r) [.int 0,.str [],.str [],.lst [],.str [],.lst []]) True
def vcTre (n:Nat):Prop:=
 ∀g h c d j k l m o p q r s t u a,(BZ (.int g::.int h::.int c::JD d j k l m o p q r s t u a)/\EB (.int g::.int h::.int c::JD d j k l m o p q r s t u a)<n+1)->Nq (ln d) (Cg H8 G2 (.int g::.int h::JE d j k l m o p q r s t u) fun R=>∀b,R [.int b]->Nb b (ln a) (Nb b (ln a)<|Nb b (ln a)<|Nb b (ln a)<|(c=0->vcTre0 n g h c d j k l m o p q r s t u a)/\(¬c=0->Nb b (ln a) ((16<ln (cL a b 9)->vcTre0 n g h c d j k l m o p q r s t u a)/\(¬16<ln (cL a b 9)->Nb b (ln a) (Nd (Cb [.lst d,.lst a,.int g,.int h,.int c,.lst (cL a b 9)] [.int 0,.int (cI a b 0),.str (cS a b 1),.str [],.lst (cL a b 2),.str (cS a b 3),.lst []])<|∀f v w x y z i,Cb [.lst d,.lst a,.int g,.int h,.int c,.lst (cL a b 9)] [.int f,.int v,.str w,.str x,.lst y,.str z,.lst i]->((f<ln (cL a b 9)->Nb f (ln (cL a b 9)) (Nd (I64 (c+(-1)))<|Nq (ln d)<|Nd (BZ (.int (cI (cL a b 9) f 0)::.int (cI (cL a b 9) f 1)::.int (c+(-1))::JD d j k l m o p q r s t u a)/\EB (.int (cI (cL a b 9) f 0)::.int (cI (cL a b 9) f 1)::.int (c+(-1))::JD d j k l m o p q r s t u a)<n)<|
 ∀A B C D F G,vY (.int (cI (cL a b 9) f 0)::.int (cI (cL a b 9) f 1)::.int (c+(-1))::JD d j k l m o p q r s t u a) [.int A,.str B,.str C,.lst D,.str F,.lst G]->Ni (ln i) (Nd (ln i+1<67108865)<|Nr (ln i)<|Nd (I64 (f+1))<|Nq (ln i+1)<|Nd (Cb [.lst d,.lst a,.int g,.int h,.int c,.lst (cL a b 9)] [.int (f+1),.int v,.str w,.str x,.lst y,.str z,.lst (i++d8 6 1 [.int A,.str B,.str C,.lst D,.str F,.lst G])])<|Nd (On [.lst d,.lst a,.int g,.int h,.int c,.lst (cL a b 9)] [.int (f+1),.int v,.str w,.str x,.lst y,.str z,.lst (i++d8 6 1 [.int A,.str B,.str C,.lst D,.str F,.lst G])]<On [.lst d,.lst a,.int g,.int h,.int c,.lst (cL a b 9)] [.int f,.int v,.str w,.str x,.lst y,.str z,.lst i]) True)))/\(¬f<ln (cL a b 9)->Nq (ln i) (Nd (vY (.int g::.int h::.int c::JD d j k l m o p q r s t u a) [.int v,.str w,.str x,.lst y,.str z,.lst i]) True)))))))))
def vcTre_eq (n:Nat):kr Go.Proofs.Tryz.prog (cTre.below EB (n+1)) Qo (SI 0) (fun _=>((48,kro Go.Proofs.Tryz.prog U0 (cTre.below EB n))::Sj 0 Go.Proofs.Tryz.prog)) 48=vcTre n:=by kernel_rfl
