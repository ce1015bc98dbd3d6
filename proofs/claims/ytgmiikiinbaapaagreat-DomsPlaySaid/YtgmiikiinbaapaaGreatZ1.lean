/- DomsPlay: contract.
  Conditions: none. -/
import Derived.Test.YtgmiikiinbaapaaGreatU1
import Derived.Test.YtgmiikiinbaapaaGreatRows
import Derived.KernelRfl
import Derived.Test.YtgmiikiinbaapaaGreatY5
import Derived.Test.YtgmiikiinbaapaaGreatV1
import Derived.Test.YtgmiikiinbaapaaGreatSm4
set_option linter.all false
set_option maxRecDepth 100000
noncomputable section
namespace Go.D
open Go Go.Xe Go.Sx
def O5 (r:Ar):Prop:=∃a b c d e:Int,r=[.int a,.int b,.int c,.int d,.int e]/\B8 a/\B8 b/\B8 c/\B8 d/\B8 e
def EJ :Ar->Prop:=fun _=>True
def EK :Ar->Ar->Prop
 |_,[.lst L,.lst F,.int b0,.int b1,.int b2,.int b3,.int b4,.int b5,.int b6,.int b7,.lst H,.lst S,.int fr,.int lv,.int c0,.int c1,.int c2,.int c3,.int c4,.int c5,.int c6,.int c7,.lst _]=>
  L=[]/\F=[]/\H=[]/\S=[]/\fr=0/\lv=0/\[b0,b1,b2,b3,b4,b5,b6,b7]=[0,0,0,0,0,0,0,0]/\[c0,c1,c2,c3,c4,c5,c6,c7]=[0,0,0,0,0,0,0,0]
 |_,_=>False
def nwbF :SV->SS->Bb (Ah):=fun v s=>match v with
 | .ptr b _ _ _=>match s.get b with
  |some (.cells (.ptr d _ _ _::_) _ _)=>some [b,d]|_=>none
 |_=>none
def cNwb :Con:=⟨ "nwb",[],[],noF,EJ,[pV],[(Nx,12,botL),(tDom,13,domL)],nwbF,EK⟩
def Kl :Ar->Prop
 | [.lst l,.lst N]=>N=[]/\ ∀r∈l,O5 r|_=>False
def iT :Ar->Ar->Prop
 |_,.bool r::_=>r=true|_,_=>False
def cPly :Con:=⟨ "ply",[.one (.g (.lst 56))],[(tNd,10,[.g (.rgl 10)])],rgF,Kl,[bV],[(tNd,10,[.g (.rgl 10)])],noB,iT⟩
def botP (t:Nat):Fm->SS->Bb (List (Nat×List G)):=fun f s=>match lk f t with
 |some (.ptr b _ _ _)=>match s.get b with
  |some (.cells (.ptr d _ _ _::_) _ _)=>some [(b,.keep:: .lst tRS:: .lst uJ::(g8++ [.acc tHd 2])),(d,.acc Lh 4:: .int .i64:: .int .i64::(g8++ [.bool,.lst Li]))]|_=>none
 |_=>none
def zU :Ar->Ar->Prop
 | [.lst l],[.lst N,.int k,.lst L,.lst F,.int b0,.int b1,.int b2,.int b3,.int b4,.int b5,.int b6,.int b7,.lst H,.lst S,.int fr,.int lv,.int c0,.int c1,.int c2,.int c3,.int c4,.int c5,.int c6,.int c7,.bool z,.lst _]=>
  0<=k/\k<=l.length/\k<=50/\z=false/\BI k.toNat L F [b0,b1,b2,b3,b4,b5,b6,b7] H S fr lv [c0,c1,c2,c3,c4,c5,c6,c7] N
 |_,_=>False
def Kj :Ar->Ar->Nat
 | [.lst l],_:: .int k::_=>(l.length-k).toNat|_,_=>0
def Gj :Ay->List (Nat×(Fm->SS->G5))
 |4=>[(0,G1 U0 "pll" (mkPr rgR [(4,.int .i64)] (botP 3)) (m8 0) zU Kj)]
 |_=>[]
def FG :Nat->List (Ay×Con)
 |0=>[(LVn,cYes "lives")]
 |_=>[(21,cNwb),(22,cDo),(LVn,cYes "lives")]
def zW :Nat->Aw->E8
 |_,P=>[(23,kro P U0 cSme)]
set_option maxRecDepth 100000
open Go Go.Xe Go.Sx
def vcNwb :Prop:=
 EJ []->Nd (EK [] (.lst []::.lst []::J8 0 0 0 0 0 0 0 0 (.lst []::.lst []::J10 0 0 0 0 0 0 0 0 0 0 [.lst []]))) True
def vcNwb_eq :kq Go.Proofs.Tryz.prog cNwb Gj (FG 0) (zW 0) 21=vcNwb:=by kernel_rfl
def vcPly0 (a:Int)(b c d f g h:Sx.Rows)(i j k l m o p q r s t u v w x y z A:Int)(B C D F:Sx.Rows)(G H I J K L M N:Int)(O P:Sx.Rows)(Q R S T U V W X Y Z:Int)(x49:Bool)(x50:Sx.Rows):Prop:=
 Nd (I64 (a+1))<|Nq (ln b)<|Nq (ln c)<|Nd (zU [.lst d] (.lst f::.int (a+1)::.lst g::.lst h::J8 i j k l m o p q (.lst b::.lst c::J10 r s t u v w x y z A [.bool false,.lst B])))<|Nd (Kj [.lst d] (.lst f::.int (a+1)::.lst g::.lst h::J8 i j k l m o p q (.lst b::.lst c::J10 r s t u v w x y z A [.bool false,.lst B]))<Kj [.lst d] (.lst C::.int a::.lst D::.lst F::J8 G H I J K L M N (.lst O::.lst P::J10 Q R S T U V W X Y Z [.bool x49,.lst x50]))) True
def vcPly1 (c d:Sx.Rows)(i:Bool)(j k:Sx.Rows)(l m o p q r s t u v w x y z A B C D:Int)(F a f g:Sx.Rows):Prop:=
 Nq (ln c)<|Nq (ln d)<|Nd (¬i=true)<|Cg AP uB (.lst j::.lst k::J8 l m o p q r s t (.lst c::JD d u v w x y z A B C D F a)) fun R=>∀b,R [.int b]->((b=1->Nd (JM []) (∀h,JN [] [.bool h]->Nd (iT [.lst f,.lst g] [.bool h,.lst a]) True))/\(¬b=1->Nd (iT [.lst f,.lst g] [.bool false,.lst a]) True))
def vcPly :Prop:=
 ∀a f,Kl [.lst a,.lst f]->Nd (EJ []) (∀x2 x3 x4 x5 x6 x7 x8 x9 x10 x11 x12 x13 x14 x15 x16 x17 x18 x19 x20 x21 x22 x23 x24,EK [] (.lst x2::.lst x3::J8 x4 x5 x6 x7 x8 x9 x10 x11 (.lst x12::JE x13 x14 x15 x16 x17 x18 x19 x20 x21 x22 x23 x24))->Nq (ln x12) (Nq (ln x13)<|Nd (zU [.lst a] (.lst f::.int 0::.lst x2::.lst x3::J8 x4 x5 x6 x7 x8 x9 x10 x11 (.lst x12::.lst x13::J10 x14 x15 x16 x17 x18 x19 x20 x21 x22 x23 [.bool false,.lst x24])))<|∀g b h i j k l m o p q r c d s t u v w x y z A B C D,zU [.lst a] (.lst g::.int b::.lst h::.lst i::J8 j k l m o p q r (.lst c::.lst d::J10 s t u v w x y z A B [.bool C,.lst D]))->((b<ln a->((b<50->Nb b (ln a) (Nq (ln c)<|Nq (ln d)<|Nd (¬C=true)<|Cg Jj wJ (.int (cI a b 0)::.int (cI a b 1)::.int (cI a b 2)::.int (cI a b 3)::.int (cI a b 4)::.lst h::.lst i::J8 j k l m o p q r (.lst c::JD d s t u v w x y z A B D g)) fun R=>∀x51 I J K L M N O P Q S G H T U V W X Y Z x71 x72 x73 x74 F,R (.int x51::.lst I::.lst J::J8 K L M N O P Q S (.lst G::JD H T U V W X Y Z x71 x72 x73 x74 F))->((x51=0->Nd (iT [.lst a,.lst f] [.bool false,.lst F]) True)/\(¬x51=0->(((b:Int).tmod 8=7->Nq (ln G) (Nq (ln H)<|Cg AP uB (.lst I::.lst J::J8 K L M N O P Q S (.lst G::JD H T U V W X Y Z x71 x72 x73 x74 F)) fun R=>∀x76,R [.int x76]->((x76=0->Nd (iT [.lst a,.lst f] [.bool false,.lst F]) True)/\(¬x76=0->vcPly0 b G H a F I J K L M N O P Q S T U V W X Y Z x71 x72 x73 x74 g h i j k l m o p q r c d s t u v w x y z A B C D))))/\(¬(b:Int).tmod 8=7->vcPly0 b G H a F I J K L M N O P Q S T U V W X Y Z x71 x72 x73 x74 g h i j k l m o p q r c d s t u v w x y z A B C D))))))/\(¬b<50->vcPly1 c d C h i j k l m o p q r s t u v w x y z A B D g a f)))/\(¬b<ln a->vcPly1 c d C h i j k l m o p q r s t u v w x y z A B D g a f))))
def vcPly_eq :kq Go.Proofs.Tryz.prog cPly Gj (FG 1) (zW 1) 4=vcPly:=by kernel_rfl
end Go.D
noncomputable section
namespace Go.D
open Go Go.Xe Go.Sx
def D0 :DM:=⟨[],[],[0,0,0,0,0,0,0,0]⟩
def wf0 :WF D0 0:=
 ⟨⟨OZ _,by omega⟩,fun s h=>by simp[D0]at h,fun i s h=>by simp[D0]at h,fun i s h=>by simp[D0]at h,⟨fun _=>0,fun _=>OZ _,fun i s h=>by simp[D0]at h⟩,fun i s h=>by simp[D0]at h,⟨0,0,0,0,0,0,0,rfl,rfl,by omega,by simp⟩,fun i s h=>by simp[D0]at h,List.nodup_nil,fun i h=>by simp[D0]at h⟩
def bi0 :BI 0 [] [] [0,0,0,0,0,0,0,0] [] [] 0 0 [0,0,0,0,0,0,0,0] []:=
 ⟨D0,⟨rfl,rfl,rfl⟩,⟨⟨[],[],rfl,rfl,rfl,fun i s h=>by simp[D0]at h,fun i j ri rj h=>by simp at h,rfl,List.nodup_nil,fun i s h=>by simp[D0]at h,rfl⟩,rfl⟩,wf0,fun r h=>by simp at h,OZ _⟩
def BI.mono {K a:Nat}{L F H S N:Sx.Rows}{fr lv:Int}{bs cs:Ak}(h:BI K L F bs H S fr lv cs N)(b:K<=a)(h':a<=1000):BI a L F bs H S fr lv cs N:=by obtain⟨D,h1,h2,h3,h4,c⟩:=h;exact⟨D,h1,h2,h3.mono b h',h4,by omega⟩
def vcNwb_ok :vcNwb:=fun _=>ndt ⟨rfl,rfl,rfl,rfl,rfl,rfl,rfl,rfl⟩
def vcPly_ok :vcPly:=by
 unfold vcPly;intro l N h;obtain⟨rfl,hl⟩:=h;refine ndi trivial fun L F b0 n p t v x A C H S fr lv c0 G J M P R V X st hn=>?_;obtain⟨rfl,rfl,rfl,rfl,rfl,rfl,hb,hc⟩:=hn;refine nin<|nrn<|nin<|nrn<|ndi ⟨by omega,by omega,by omega,rfl,by rw[hb,hc];exact bi0⟩ fun N k L F b0 n p t v x A C H S fr lv c0 G J M P R V X z st hI=>?_;obtain⟨k0,k1,ad,rfl,hB⟩:=hI;have i:vcPly1 H S false L F b0 n p t v x A C fr lv c0 G J M P R V X st N l []:=by
  unfold vcPly1;refine nin<|nrn<|nin<|nrn<|ndi (by simp)<|ndi ⟨_,hB⟩ fun r hr=>⟨fun _=>ndi rfl fun b hb=>ndt ?_,fun h=>absurd hr h⟩
  have hb: [Dat.bool b]=[Dat.bool true]:=hb;simp only[PZ,Dat.bool.injEq,Qc]at hb;exact hb
 refine⟨fun hk=>⟨fun ac=>?_,fun _=>i⟩,fun _=>i⟩;have hk:k<l.length:=hk;have n0:¬k<0:=by omega
 obtain⟨r,hr⟩:=Sx.get_at (T:=l) k0 hk;obtain⟨a,b,c,d,e,rfl,h1,h2,h3,h4,h5⟩:=hl r (ON hr);have cell:∀j,cI l k j=(([Dat.int a,.int b,.int c,.int d,.int e]:Ar).getD j (.int 0)).toInt:=fun j=>by have:=i4 (f:=id) hr j;rw[List.map_id]at this;simp only[cI,this];rfl
 rw[cell,cell,cell,cell,cell];refine ndi n0<|ndi hk<|nin<|nrn<|nin<|nrn<|ndi (by simp)<|ndi ⟨h1,h2,h3,h4,h5,k.toNat,by omega,hB⟩ fun r L' F' m o s u w y B D H' S' Z aa E I K O Q U W Y ab N' hr=>?_;obtain⟨r1,_,g⟩:=hr;have g:=g k.toNat (by omega) hB;have nx:vcPly0 k H' S' l N' L' F' m o s u w y B D Z aa E I K O Q U W Y ab N L F b0 n p t v x A C H S fr lv c0 G J M P R V X false st:=by
  unfold vcPly0;refine ndi (by unfold I64;omega)<|nin<|nrn<|nin<|nrn<|ndi ⟨by omega,by omega,by omega,rfl,?_⟩<|ndt ?_
  ·rw[show(k+1).toNat=k.toNat+1 by omega];exact g
  ·show(l.length-(k+1)).toNat<(l.length-k).toNat;omega
 refine⟨fun h=>by omega,fun _=>⟨fun _=>nin<|nrn<|nin<|nrn<|ndi ⟨_,g⟩ fun q hq=>⟨fun h=>?_,fun _=>nx⟩,fun _=>nx⟩⟩;have hq:q=1:=hq;omega
end Go.D
noncomputable section
namespace Go.D
open Go Go.Xe Go.Sx Go.RowKit
open Go.Proofs
def g_nwb :j3 PR U0 LV cNwb 21:=i5 Gj K2 (show dQ PR U0 LV (zW 0 PR)from⟨⟨L6 Ns,rfl⟩,trivial⟩) 400 vcNwb_eq vcNwb_ok (A6 rfl)
def stZ :S3 PR U0 LV (FG 1):=⟨g_nwb,g_do,D1,trivial⟩
def xZ :dQ PR U0 LV (zW 1 PR):=⟨⟨L6 Ns,rfl⟩,trivial⟩
def g_ply :j3 PR U0 LV cPly 4:=i5 Gj stZ xZ 400 vcPly_eq vcPly_ok (A6 rfl)
def fX :kf PR 56=[.int .u8,.int .u8,.int .u8,.int .u8,.int .u8]:=by kernel_rfl
def No :kd1 PR 51= .sl 56:=by kernel_rfl
def Mf :Ck PR 3 (.sl 56)=true:=by kernel_rfl
def BZ {P:Aw}{d:Dat}(h:DW P (.int .u8) d):∃n:Int,B8 n/\d= .int n:=by
 cases h with
 |int k n h=>have h1:=h.1;have h2:n<=255:=h.2;exact⟨n,⟨h1,by omega⟩,rfl⟩
def os_of {d:Dat}(h:DW PR (.sl 56) d):∃L:Sx.Rows,(∀r∈L,O5 r)/\d= .lst L:=by
 cases h with
 |sl _ rows hl hz hh=>
  refine⟨rows,fun r hr=>?_,rfl⟩;have h3:=hz r hr;rw[fX]at h3;obtain⟨i,hi⟩:=PI.1 hr
  match r,h3,hi with
  | [a,b,c,d,e],_,hi=>obtain⟨a,f,rfl⟩:=BZ (hh i 0 _ (.int .u8) a hi rfl (by rw[fX];rfl));obtain⟨b,hb,rfl⟩:=BZ (hh i 1 _ (.int .u8) b hi rfl (by rw[fX];rfl));obtain⟨c,hc,rfl⟩:=BZ (hh i 2 _ (.int .u8) c hi rfl (by rw[fX];rfl));obtain⟨d,g,rfl⟩:=BZ (hh i 3 _ (.int .u8) d hi rfl (by rw[fX];rfl));obtain⟨e,he,rfl⟩:=BZ (hh i 4 _ (.int .u8) e hi rfl (by rw[fX];rfl));exact⟨a,b,c,d,e,rfl,f,hb,hc,g,he⟩
variable {W:Bc}{spare:Nat->Bool}{v:Av}{ps:List MemPlace}{r:Reach}
def NG {H:Type}{enc:Ax×Av->H}{c:Bool}{d:DataW H}(ht:PR.underlying 51=some (.slice 56)){b:Nat}(hv:Value.okWide PR W r b 51 v)(h:DataW.Trod enc PR W 0 spare c 51 v d ps):∃(a:Av) (L:Sx.Rows),(∀r∈L,O5 r)/\VR (CS W) a v/\ ∀n,VD PR U0 (fun _=>none) (roF W) (.lst 56 (.dat n (.lst L)) false) a:=by obtain⟨e,len,cap,rfl⟩:=Go.WideShapes.okWide_slice ht hv;obtain⟨f,a,h1,h2,h3⟩:=LG h (m:=3) (by rw[No];exact Mf) rfl;rw[No]at h2 h3;obtain⟨L,hL,rfl⟩:=os_of h3;exact⟨a,L,hL,Gg h1,fun n=>.lst 56 _ false a h2 (fun h=>by cases h)⟩
def CE {d e:Ar}(h:iT d e):∃r,e= .bool true::r:=by
 unfold iT at h;split at h
 ·exact⟨_,by rw[h]⟩
 ·exact h.elim
def ply_walk {H:Type}{enc:Ax×Av->H}{c:Bool}{d:DataW H}(hm:PR.follows .mixedOrders=true)(ht:PR.underlying 51=some (.slice 56)){b:Nat}(hv:Value.okWide PR W r b 51 v)(h:DataW.Trod enc PR W 0 spare c 51 v d ps):Calls PR 4 #[v] W fun e w'=>e= .returned (.bool true)/\Below W.heap.size W w':=by obtain⟨a,L,h1,h2,h3⟩:=NG ht hv h;exact Et hm (LV_ok hm) g_ply rfl (fun d e h=>CE h) (es:=[.dat 0 (.lst L),.dat 1 (.lst [])]) rfl ⟨rfl,h1⟩ (R:= .dat 1 (.lst [])) rfl rfl (xs:=[a]) (ys:=[v]) (Rx (h3 0) Ry) (RB h2 (RC _))
end Go.D
