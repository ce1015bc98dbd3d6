/- The conditions of contracts, as the engine's printer has written them, and that the kernel comes to the same.
  Conditions: none. -/
import Derived.Test.YtgmiikiinbaapaaGreatE1
import Derived.Test.YtgmiikiinbaapaaGreatRows
import Derived.KernelRfl
set_option linter.all false
set_option maxRecDepth 100000
namespace Go.D
open Go Go.Xe Go.Sx
def vcHds :Prop:=
 ∀d f b g h i j k l m o p,Em (JE d f b g h i j k l m o p)->Nb b 1048577 (Nd (¬ln (List.replicate (b).toNat [.int 0,.int 0]:Sx.Rows)<0)<|Nr b<|Ni b<|Nd (rP [.lst d,.int b] [.lst (pQ (List.replicate (b).toNat [.int 0,.int 0]:Sx.Rows) 0 0),.int 0])<|∀a c,rP [.lst d,.int b] [.lst a,.int c]->((c<ln d->Nb c (ln d) (Nd (c<ln d)<|(cB d c 1=true->Ni (ln a) (Nd (ln a+1<67108865)<|(b<ln a+1->Nr (ln a) (Nd (I64 (c+1))<|Nq (ln a+1) False))/\(¬b<ln a+1->Ni b (Nd (I64 (c+1))<|Nd (¬ln (Sx.over a (ln a) (b8 2 1 [.int (IntKind.wrap .u32 c),.int (cI d c 0)]))<ln a+1)<|Nr b<|Ni b<|Nd (rP [.lst d,.int b] [.lst (pQ (Sx.over a (ln a) (b8 2 1 [.int (IntKind.wrap .u32 c),.int (cI d c 0)])) 0 (ln a+1)),.int (c+1)])<|Nd (rQ [.lst d,.int b] [.lst (pQ (Sx.over a (ln a) (b8 2 1 [.int (IntKind.wrap .u32 c),.int (cI d c 0)])) 0 (ln a+1)),.int (c+1)]<rQ [.lst d,.int b] [.lst a,.int c]) True))))/\(¬cB d c 1=true->Nd (I64 (c+1)) (Nq (ln a)<|Nr b<|Ni b<|Nd (rP [.lst d,.int b] [.lst a,.int (c+1)])<|Nd (rQ [.lst d,.int b] [.lst a,.int (c+1)]<rQ [.lst d,.int b] [.lst a,.int c]) True))))/\(¬c<ln d->Nq (ln a) (Nd (Eo (JE d f b g h i j k l m o p) [.lst a]) True))))
def vcHds_eq :kr Go.Proofs.Tryz.prog cHds oK (AZ 0) (sX 0) 82=vcHds:=by kernel_rfl
def vcWai :Prop:=
 ∀b d f g h i j k l m o p,FJ (JE b d f g h i j k l m o p)->Nd (Bm [.lst b,.int d] [.lst [],.int d]) (∀c a,Bm [.lst b,.int d] [.lst c,.int a]->((0<a->Nd (I64 (a+(-1))) (Nd (I64 (a+(-1)))<|Nb (a+(-1)) (ln b)<|Nd (a+(-1)<ln b)<|Ni (ln c)<|Nd (ln c+1<67108865)<|Nr (ln c)<|Nd (I64 (a+(-1)))<|Nb (a+(-1)) (ln b)<|Nd (a+(-1)<ln b)<|Nq (ln c+1)<|Nd (Bm [.lst b,.int d] [.lst (c++b8 2 1 [.int (IntKind.wrap .u32 (a+(-1))),.int (cI b (a+(-1)) 0)]),.int (cI b (a+(-1)) 2)])<|
 Nd (Lt [.lst b,.int d] [.lst (c++b8 2 1 [.int (IntKind.wrap .u32 (a+(-1))),.int (cI b (a+(-1)) 0)]),.int (cI b (a+(-1)) 2)]<Lt [.lst b,.int d] [.lst c,.int a]) True))/\(¬0<a->Nd (¬ln c<0) (Ni (ln c)<|Nq (ln c)<|Nq (ln c)<|Nd (FK (JE b d f g h i j k l m o p) [.lst c]) True))))
def vcWai_eq :kr Go.Proofs.Tryz.prog cWai oK (AZ 0) (sX 0) 58=vcWai:=by kernel_rfl
def vcRoo0 (a:Int)(b c d f:Sx.Rows):Prop:=
 Nd (I64 (a+1))<|Nq (ln b)<|Nd (tD [.lst c,.lst d,.lst f] [.lst b,.int (a+1)])<|Nd (tE [.lst c,.lst d,.lst f] [.lst b,.int (a+1)]<tE [.lst c,.lst d,.lst f] [.lst b,.int a]) True
def vcRoo :Prop:=
 ∀f h i j k l m o p q r s d,Fa (JD f h i j k l m o p q r s d)->Nq (ln f) (Cg Em Eo (JE f h i j k l m o p q r s) fun R=>∀a,R [.lst a]->Nd (tD [.lst f,.lst d,.lst a] [.lst [],.int 0]) (∀c b,tD [.lst f,.lst d,.lst a] [.lst c,.int b]->((b<ln a->Nb b (ln a) (Nq (ln f)<|Cg u7 u5 (.int (cI a b 0)::.int (cI a b 1)::JE f h i j k l m o p q r s) fun R=>∀g,R [.int g]->Nb g (ln d) ((cI d g 7=0->((cI d g 8=0->Ni (ln c) (Nd (ln c+1<67108865)<|Nr (ln c)<|Nd (I64 (b+1))<|Nq (ln c+1)<|Nd (tD [.lst f,.lst d,.lst a] [.lst (c++b8 2 1 [.int (cI a b 0),.int (cI a b 1)]),.int (b+1)])<|Nd (tE [.lst f,.lst d,.lst a] [.lst (c++b8 2 1 [.int (cI a b 0),.int (cI a b 1)]),.int (b+1)]<tE [.lst f,.lst d,.lst a] [.lst c,.int b]) True))/\(¬cI d g 8=0->vcRoo0 b c f d a)))/\(¬cI d g 7=0->vcRoo0 b c f d a))))/\(¬b<ln a->Nd (¬ln c<0) (Ni (ln c)<|Nq (ln c)<|Nq (ln c)<|Nd (Fb (JD f h i j k l m o p q r s d) [.lst c]) True)))))
def vcRoo_eq :kr Go.Proofs.Tryz.prog cRoo oK (AZ 1) (sX 1) 25=vcRoo:=by kernel_rfl
def vcLok :Prop:=
 ∀d f c g h i j k l m o p q r a,mY (.int d::.int f::JD c g h i j k l m o p q r a)->Nq (ln c) (Cg H4 D3 (.int d::.int f::JE c g h i j k l m o p q r) fun R=>∀t,R [.bool t]->((t=true->Nq (ln c) (Cg u7 u5 (.int d::.int f::JE c g h i j k l m o p q r) fun R=>∀b,R [.int b]->Nb b (ln a) (∀(u:Bool),(u=true->ln (cL a b 2)=0->∀(s:Bool),(s=true->ln (cL a b 9)=0->Nd (P1 (.int d::.int f::JD c g h i j k l m o p q r a) [.int (cI a b 0),.str (cS a b 1),.lst [],.str (cS a b 3),.int (cI a b 4),.int (cI a b 5),.bool (cB a b 6),.int (cI a b 7),.int (cI a b 8),.lst [],.int 0]) True)/\(¬s=true->Nd (ln (cL a b 9)<67108865) ((0<ln (cL a b 9)->Nd (¬ln (cL a b 9)<0) (Ni (ln (cL a b 9))<|Nq (ln (cL a b 9))<|Nq (ln (cL a b 9))<|Nd (P1 (.int d::.int f::JD c g h i j k l m o p q r a) [.int (cI a b 0),.str (cS a b 1),.lst [],.str (cS a b 3),.int (cI a b 4),.int (cI a b 5),.bool (cB a b 6),.int (cI a b 7),.int (cI a b 8),.lst (b8 2 0 []++cL a b 9),.int 0]) True))/\(¬0<ln (cL a b 9)->Nd (¬ln (cL a b 9)<0) (Ni (ln (cL a b 9))<|Nd (¬0<ln (cL a b 9))<|Nr (ln (cL a b 9))<|Nd (¬ln (Sx.over (b8 2 0 []) 0 (cL a b 9))<ln (cL a b 9))<|Nd (P1 (.int d::.int f::JD c g h i j k l m o p q r a) [.int (cI a b 0),.str (cS a b 1),.lst [],.str (cS a b 3),.int (cI a b 4),.int (cI a b 5),.bool (cB a b 6),.int (cI a b 7),.int (cI a b 8),.lst (pQ (Sx.over (b8 2 0 []) 0 (cL a b 9)) 0 (ln (cL a b 9))),.int 0]) True)))))/\(¬u=true->Nd (ln (cL a b 2)<67108865) ((0<ln (cL a b 2)->Nd (¬ln (cL a b 2)<0) (Ni (ln (cL a b 2))<|Ni (ln (cL a b 2))<|∀(s:Bool),(s=true->ln (cL a b 9)=0->Nr (ln (cL a b 2)) (Nq (ln (cL a b 2))<|Nd (P1 (.int d::.int f::JD c g h i j k l m o p q r a) [.int (cI a b 0),.str (cS a b 1),.lst (b8 2 0 []++cL a b 2),.str (cS a b 3),.int (cI a b 4),.int (cI a b 5),.bool (cB a b 6),.int (cI a b 7),.int (cI a b 8),.lst [],.int 0]) True))/\(¬s=true->Nd (ln (cL a b 9)<67108865) ((0<ln (cL a b 9)->Nd (¬ln (cL a b 9)<0) (Ni (ln (cL a b 9))<|Ni (ln (cL a b 9))<|Nr (ln (cL a b 2))<|Nq (ln (cL a b 2))<|Nr (ln (cL a b 9))<|Nq (ln (cL a b 9))<|Nd (P1 (.int d::.int f::JD c g h i j k l m o p q r a) [.int (cI a b 0),.str (cS a b 1),.lst (b8 2 0 []++cL a b 2),.str (cS a b 3),.int (cI a b 4),.int (cI a b 5),.bool (cB a b 6),.int (cI a b 7),.int (cI a b 8),.lst (b8 2 0 []++cL a b 9),.int 0]) True))/\(¬0<ln (cL a b 9)->Nd (¬ln (cL a b 9)<0) (Ni (ln (cL a b 9))<|Nd (¬0<ln (cL a b 9))<|Nr (ln (cL a b 2))<|Nq (ln (cL a b 2))<|Nr (ln (cL a b 9))<|Nd (¬ln (Sx.over (b8 2 0 []) 0 (cL a b 9))<ln (cL a b 9))<|Nd (P1 (.int d::.int f::JD c g h i j k l m o p q r a) [.int (cI a b 0),.str (cS a b 1),.lst (b8 2 0 []++cL a b 2),.str (cS a b 3),.int (cI a b 4),.int (cI a b 5),.bool (cB a b 6),.int (cI a b 7),.int (cI a b 8),.lst (pQ (Sx.over (b8 2 0 []) 0 (cL a b 9)) 0 (ln (cL a b 9))),.int 0]) True))))))/\(¬0<ln (cL a b 2)->Nd (¬ln (cL a b 2)<0) (Ni (ln (cL a b 2))<|Nd (¬0<ln (cL a b 2))<|∀(s:Bool),(s=true->ln (cL a b 9)=0->Nr (ln (cL a b 2)) (Nd (¬ln (Sx.over (b8 2 0 []) 0 (cL a b 2))<ln (cL a b 2))<|Nd (P1 (.int d::.int f::JD c g h i j k l m o p q r a) [.int (cI a b 0),.str (cS a b 1),.lst (pQ (Sx.over (b8 2 0 []) 0 (cL a b 2)) 0 (ln (cL a b 2))),.str (cS a b 3),.int (cI a b 4),.int (cI a b 5),.bool (cB a b 6),.int (cI a b 7),.int (cI a b 8),.lst [],.int 0]) True))/\(¬s=true->Nd (ln (cL a b 9)<67108865) ((0<ln (cL a b 9)->Nd (¬ln (cL a b 9)<0) (Ni (ln (cL a b 9))<|Ni (ln (cL a b 9))<|Nr (ln (cL a b 2))<|Nd (¬ln (Sx.over (b8 2 0 []) 0 (cL a b 2))<ln (cL a b 2))<|Nr (ln (cL a b 9))<|Nq (ln (cL a b 9))<|Nd (P1 (.int d::.int f::JD c g h i j k l m o p q r a) [.int (cI a b 0),.str (cS a b 1),.lst (pQ (Sx.over (b8 2 0 []) 0 (cL a b 2)) 0 (ln (cL a b 2))),.str (cS a b 3),.int (cI a b 4),.int (cI a b 5),.bool (cB a b 6),.int (cI a b 7),.int (cI a b 8),.lst (b8 2 0 []++cL a b 9),.int 0]) True))/\(¬0<ln (cL a b 9)->Nd (¬ln (cL a b 9)<0) (Ni (ln (cL a b 9))<|Nd (¬0<ln (cL a b 9))<|Nr (ln (cL a b 2))<|Nd (¬ln (Sx.over (b8 2 0 []) 0 (cL a b 2))<ln (cL a b 2))<|Nr (ln (cL a b 9))<|Nd (¬ln (Sx.over (b8 2 0 []) 0 (cL a b 9))<ln (cL a b 9))<|Nd (P1 (.int d::.int f::JD c g h i j k l m o p q r a) [.int (cI a b 0),.str (cS a b 1),.lst (pQ (Sx.over (b8 2 0 []) 0 (cL a b 2)) 0 (ln (cL a b 2))),.str (cS a b 3),.int (cI a b 4),.int (cI a b 5),.bool (cB a b 6),.int (cI a b 7),.int (cI a b 8),.lst (pQ (Sx.over (b8 2 0 []) 0 (cL a b 9)) 0 (ln (cL a b 9))),.int 0]) True)))))))))))/\(¬t=true->Nd (P1 (.int d::.int f::JD c g h i j k l m o p q r a) [.int 0,.str [],.lst [],.str [],.int 0,.int 0,.bool false,.int 0,.int 0,.lst [],.int 11]) True)))
def vcLok_eq :kr Go.Proofs.Tryz.prog cLok oK (AZ 0) (sX 0) 17=vcLok:=by kernel_rfl
end Go.D
noncomputable section
namespace Go.D
open Go Go.Xe Go.Sx
def Jy {S:Sx.Rows}{k:Int}(h0:0<=k)(h1:k<S.length):∃r,r∈S/\(∀j,y9 S k j=r.getD j (.int 0))/\hdF (S.drop k.toNat) k=if(r.getD 1 (.int 0)).toBool then [.int k,r.getD 0 (.int 0)]::hdF (S.drop (k+1).toNat) (k+1)else hdF (S.drop (k+1).toNat) (k+1):=by obtain⟨r,r1,a⟩:=aM h0 h1;exact⟨r,Qo (by rw[r1];exact List.mem_cons_self),a,by rw[r1];rfl⟩
def HU {O:Sx.Rows}{r:Ar}:pQ (Sx.over O (ln O) [r]) 0 (ln O+1)=O++ [r]:=by
 unfold pQ Sx.over;have e:(ln O+1).toNat=O.length+1:=by simp only[ln];omega
 have a:(ln O).toNat=O.length:=by simp only[ln];omega
 rw[e,a,List.take_length,List.drop_of_length_le (l:=O) (by omega),Qr,Int.toNat_zero,Qw];exact PC (by simp)
def vcHds_ok :vcHds:=by
 unfold vcHds;intro S fr lv c0 g i j l o p q st h;obtain⟨h1,h2,h3⟩:=h;have e:∀(S:Sx.Rows) (k:Int),(hdF S k).length<=S.length:=by
  intro S;induction S with
  |nil=>intro k;exact OZ _
  |cons r S f=>intro k;unfold hdF;have:=f (k+1);split<;>simp<;>omega
 have:=e S 0;have ls:ln S<=1000:=by simp only[ln];omega
 refine ndi (by omega) (ndi (by omega) (ndi (by simp only[ln];omega) (nrn (nin (ndi ⟨by omega,by omega,by simp[pQ],by simp[pQ]⟩ fun O k hI=>?_)))));obtain⟨k0,k1,k2,k3⟩:=hI;have lo:ln O<=1000:=by simp only[ln];omega
 refine⟨fun hk=>?_,fun hk=>nin (nrn (ndt ?_))⟩
 ·have c:k<S.length:=hk;obtain⟨r,m,r1,d⟩:=Jy k0 c;obtain⟨n,hn⟩:=h3 r m;have a:cB S k 1=(r.getD 1 (.int 0)).toBool:=by simp only[cB,r1]
  have b:(.int (cI S k 0):Dat)=r.getD 0 (.int 0):=by simp only[cI,r1,hn];rfl
  refine ndi (by omega) (ndi hk (ndi hk ⟨fun hb=>?_,fun hb=>?_⟩))
  ·rw[a]at hb;rw[d,OY hb]at k3;have lk:O.length+1<=(hdF S 0).length:=by rw[<-k3];simp
   have w:IntKind.wrap .u32 k=k:=P6 (by simp[IntKind.min,IntKind.signed];omega) (by simp[IntKind.max,IntKind.signed,IntKind.bits];omega);have row:(b8 2 1 [.int (IntKind.wrap .u32 k),.int (cI S k 0)]:Sx.Rows)=[[.int k,r.getD 0 (.int 0)]]:=by rw[w,<-b];rfl
   rw[row,HU];refine nin (ndi (by omega) ⟨fun h=>?_,fun h=>nin (ndi (by unfold I64;omega) (ndi ?_ (nrn (nin (ndi ⟨by omega,by omega,by simp;omega,?_⟩ (ndt ?_))))))⟩)
   ·simp only[ln]at h;omega
   ·simp only[Sx.over,ln,Pe,Po,PF,Pw,QD];omega
   ·rw[OQ];exact k3
   ·simp only[rQ];omega
  ·rw[a]at hb;rw[d,OW hb]at k3;refine ndi (by unfold I64;omega) (nin (nrn (nrn (nin (ndi ⟨by omega,by omega,by omega,k3⟩ (ndt ?_))))));simp only[rQ];omega
 ·have hk:¬k<(S.length:Int):=hk;rw[List.drop_eq_nil_of_le (by omega)]at k3;show O=hdF S 0;rw[<-k3];simp[hdF]
def vcLok_ok :vcLok:=by
 unfold vcLok;intro i g S fr lv c0 r t u v w x y st N h;obtain⟨hi,hg,D,K,m,o⟩:=h;have f:=m.slen o;refine V6 ⟨hi,hg,f⟩ ⟨fun hv=>?_,fun hv=>ndt ?_⟩
 ·obtain⟨c,hk⟩:=m.vld.1 hv;obtain⟨s,h1,h2,h3,h4,z,C,q⟩:=m.node hk;have F:ln (cL N (atF S i g) 2)<=8:=by
   have:cL N (atF S i g) 2=s.n.atts.map Att.row:=by unfold cL;rw[q];rfl
   rw[this];simp only[ln,OV];have:=(o.atts c s h1 h3).1;omega
  have G:ln (cL N (atF S i g) 9)<=1000:=by
   have:cL N (atF S i g) 9=s.n.ch.map (E2 D.gen):=by unfold cL;rw[q];rfl
   rw[this];simp only[ln,OV];have:=o.kidlen h1 h3;omega
  have a:∀ {A B:Sx.Rows},A=cL N (atF S i g) 2->B=cL N (atF S i g) 9->P1 [.int i,.int g,.lst S,.int fr,.int lv,.int c0,.int r,.int t,.int u,.int v,.int w,.int x,.int y,.lst st,.lst N] [.int (cI N (atF S i g) 0),.str (cS N (atF S i g) 1),.lst A,.str (cS N (atF S i g) 3),.int (cI N (atF S i g) 4),.int (cI N (atF S i g) 5),.bool (cB N (atF S i g) 6),.int (cI N (atF S i g) 7),.int (cI N (atF S i g) 8),.lst B,.int 0]:=fun e b=>by show ite _ _ _;rw[OY hv];exact⟨rfl,rfl,e,rfl,rfl,rfl,rfl,rfl,rfl,b,rfl⟩
  refine E6 ⟨hi,hg,f⟩ (C3 z C ?_);have j:∀ {L:Sx.Rows},ln L=0->[]=L:=fun h=>(OJ (by simp only[ln]at h;omega)).symm;have l:∀ {L:Sx.Rows},0<=ln L:=fun{L}=>by simp only[ln];omega
  have ov:∀ {L:Sx.Rows},¬0<ln L->Sx.over (b8 2 0 []) 0 L=L:=fun{L} h=>by have:=j (L:=L) (by have:=l (L:=L);omega);subst this;rfl
  have pt:∀ {L:Sx.Rows},¬0<ln L->pQ (Sx.over (b8 2 0 []) 0 L) 0 (ln L)=L:=fun{L} h=>by have:=j (L:=L) (by have:=l (L:=L);omega);subst this;rfl
  have H:=l (L:=cL N (atF S i g) 2);have I:=l (L:=cL N (atF S i g) 9);exact fun E=>⟨fun _ k p=>⟨fun _ d=>ndt (a (j k) (j d)),fun _=>ndi (by omega) ⟨fun b=>ndi (by omega) (nin (nin (nrn (nin (nrn (ndt (a (j k) rfl))))))),fun b=>ndi (by omega) (nin (ndi b (nrn (ndi (by rw[ov b];omega) (ndt (a (j k) (pt b)))))))⟩⟩,
   fun _=>ndi (by omega) ⟨fun e=>ndi (by omega) (nin (nin fun p=>⟨fun _ d=>nrn (nin (nrn (ndt (a rfl (j d))))),fun _=>ndi (by omega) ⟨fun b=>ndi (by omega) (nin (nin (nrn (nin (nrn (nrn (nin (nrn (ndt (a rfl rfl)))))))))),fun b=>ndi (by omega) (nin (ndi b (nrn (nin (nrn (nrn (ndi (by rw[ov b];omega) (ndt (a rfl (pt b))))))))))⟩⟩)),
    fun e=>ndi (by omega) (nin (ndi e fun p=>⟨fun _ d=>nrn (ndi (by rw[ov e];omega) (ndt (a (pt e) (j d)))),fun _=>ndi (by omega) ⟨fun b=>ndi (by omega) (nin (nin (nrn (ndi (by rw[ov e];omega) (nrn (nin (nrn (ndt (a (pt e) rfl))))))))),fun b=>ndi (by omega) (nin (ndi b (nrn (ndi (by rw[ov e];omega) (nrn (ndi (by rw[ov b];omega) (ndt (a (pt e) (pt b)))))))))⟩⟩))⟩⟩
 ·show ite _ _ _;rw[OW hv]
end Go.D
