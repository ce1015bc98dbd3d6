/- The law's own functions: the conditions of pick, tag, name, text, handles, and of the reference's Same of attributes hold.
  Conditions: none. -/
import Derived.Test.YtgmiikiinbaapaaGreatU2
import Derived.Test.YtgmiikiinbaapaaGreatR9
import Derived.Test.YtgmiikiinbaapaaGreatW8
import Derived.Test.YtgmiikiinbaapaaGreatR4
import Derived.Test.YtgmiikiinbaapaaGreatRows
import Derived.KernelRfl
set_option linter.all false
noncomputable section
namespace Go.D
open Go Go.Xe Go.Sx
def Bi {n m:Int}(h0:0<=n)(h:0<m):¬n.tmod m<0/\n.tmod m<m:=by have:=Int.tmod_nonneg m h0;have:=Int.tmod_lt_of_pos n h;omega
def vcTag_ok :vcTag:=by unfold vcTag;rintro n ⟨h0,h1⟩;obtain⟨a,b⟩:=Bi h0 (show(0:Int)<5 by omega);exact ndi a (ndi b (ndi b (ndt trivial)))
def vcNms_ok :vcNms:=by unfold vcNms;rintro n ⟨h0,h1⟩;obtain⟨a,b⟩:=Bi h0 (show(0:Int)<5 by omega);exact ndi a (ndi b (ndi b (ndt rfl)))
def vcTxt_ok :vcTxt:=by unfold vcTxt;rintro n ⟨h0,h1⟩;obtain⟨a,b⟩:=Bi h0 (show(0:Int)<4 by omega);exact ndi a (ndi b (ndi b (ndt rfl)))
def Ds (x:Int):U32 (IntKind.wrap .u32 x):=by unfold U32 IntKind.wrap;simp[IntKind.signed,IntKind.bits];omega
def vcPck_ok :vcPck:=by
 unfold vcPck;intro n L F b0 o p q s t u v H S fr lv c0 w x y A B C D st N h;obtain⟨h0,h1,c⟩:=h;have z:U32 0:=by unfold U32;omega
 have zero:∀d,Z7 d [.int 0,.int 0]:=fun _=>⟨z,z⟩
 refine⟨fun e=>ndt (zero _),fun e=>⟨fun e'=>ndt (zero _),fun e'=>?_⟩⟩;have k:0<ln H:=by simp only[ln]at e'⊢;omega
 obtain⟨a,b⟩:=Bi h0 k;have cell:U32 (cI H (n.tmod (ln H)) 0)/\U32 (cI H (n.tmod (ln H)) 1):=by
  obtain⟨r,hr⟩:=Sx.get_at (T:=H) (i:=n.tmod (ln H)) (by omega) b;obtain⟨i,g,rfl,l,m⟩:=c r (ON hr);have:∀j,y9 H (n.tmod (ln H)) j=([Dat.int i,.int g]:Ar).getD j (.int 0):=fun j=>by have:=i4 (f:=id) hr j;rwa[List.map_id]at this
  simp only[cI,this];exact⟨l,m⟩
 refine ndi (by unfold I64;omega)<|ndi e'<|ndi a<|ndi b<|ndi b ⟨fun _=>ndt ⟨cell.1,Ds _⟩,fun _=>⟨fun _=>ndt ⟨Ds _,cell.2⟩,fun _=>⟨fun _=>ndt ⟨by unfold U32;omega,by unfold U32;omega⟩,fun _=>ndt cell⟩⟩⟩
def vcHnd_ok :vcHnd:=by
 unfold vcHnd;intro P X L F b0 i m n o p q r H S fr lv c0 s t u v w x y st N h;obtain⟨l,rfl,rfl,hl,h1,h2⟩:=h;have f:ln (l.map fun j:Nat=>[Dat.int j,.int (cI L j 0)])=(l.length:Int):=by simp[ln]
 have g:ln (l.map A3)=(l.length:Int):=by simp[ln]
 rw[f,g];refine⟨fun _=>⟨fun _=>ndi ⟨by omega,by simp⟩ fun k hI=>?_,fun h=>absurd rfl h⟩,fun h=>absurd rfl h⟩;obtain⟨k0,k1⟩:=hI;refine⟨fun hk=>?_,fun _=>ndt rfl⟩;obtain⟨b,hb⟩:=Sx.get_at (T:=l) k0 hk;have hm:=hl b (ON hb);have e0:cI (l.map fun j:Nat=>[Dat.int j,.int (cI L j 0)]) k 0=b:=by simp only[cI,i4 hb];rfl
 have e:cI (l.map fun j:Nat=>[Dat.int j,.int (cI L j 0)]) k 1=cI L b 0:=by simp only[cI,i4 hb];rfl
 have c:¬k<0:=by omega
 have wr:IntKind.wrap .u32 (b:Int)=b:=P6 (by simp[IntKind.min,IntKind.signed]) (by simp[IntKind.max,IntKind.signed,IntKind.bits];omega);have z:ln L=(L.length:Int):=rfl;rw[e0,e,cI_il hb,wr];have a:∀d:Ar,Sx.Nd (I64 (k+1)) (Sx.Nd (mU [.lst (l.map fun j:Nat=>[Dat.int j,.int (cI L j 0)]),.lst (l.map A3),.lst L] [.int (k+1)]) (Sx.Nd (rR [.lst (l.map fun j:Nat=>[Dat.int j,.int (cI L j 0)]),.lst (l.map A3),.lst L] [.int (k+1)]<rR [.lst (l.map fun j:Nat=>[Dat.int j,.int (cI L j 0)]),.lst (l.map A3),.lst L] [.int k]) True)):=fun _=>
  ndi (by unfold I64;omega) (ndi ⟨by omega,by rw[OV];omega⟩ (ndt (by simp only[rR,A5];rw[OV];omega)))
 exact ndi c (ndi hk (ndi c (ndi hk ⟨fun h=>absurd h (by omega),fun _=>ndi (by omega) (ndi (by omega) ⟨fun _=>⟨fun _=>a [],fun h=>absurd rfl h⟩,fun h=>absurd rfl h⟩)⟩)))
def vcAsm_ok :vcAsm:=by
 unfold vcAsm;rintro A B ⟨l,m,rfl,rfl,hl⟩;have o:ln (l.map Att.row)=(l.length:Int):=by simp[ln]
 have p:ln (m.map Att.row)=(m.length:Int):=by simp[ln]
 rw[o,p];refine⟨fun n=>ndi ⟨by omega,by omega,by simp;omega,by simp⟩ fun k hI=>?_,fun hn=>ndt ⟨fun e=>absurd (by rw[Q6 e]) hn,fun _=>rfl⟩⟩;obtain⟨k0,k1,k2,h⟩:=hI;refine⟨fun hk=>?_,fun hk=>ndt ⟨fun _=>rfl,fun hn=>absurd ?_ hn⟩⟩
 ·obtain⟨a,c⟩:=Sx.get_at (T:=l) k0 hk;obtain⟨b,hb⟩:=Sx.get_at (T:=m) k0 (by omega);rw[(cS_al c).1,(cS_al c).2,(cS_al hb).1,(cS_al hb).2];have j:¬k<0:=by omega
  have no:a≠b->Z1 [.lst (l.map Att.row),.lst (m.map Att.row)] [.int 0]:=fun i=>⟨fun e=>absurd (by have:=Q6 e;subst this;rw[c]at hb;exact Pc hb) i,fun _=>rfl⟩
  refine ndi j (ndi hk (ndi j (ndi (by omega) ⟨fun d=>⟨fun f=>?_,fun f=>ndt (no fun e=>f (by rw[e]))⟩,fun d=>ndt (no fun e=>d (by rw[e]))⟩)));have g:a=b:=Gm d f;subst g;refine ndi (by unfold I64;omega) (ndi ⟨by omega,by rw[OV];omega,k2,?_⟩ (ndt (by simp only[IY,A5];rw[OV];omega)));rw[m9 k0 (G2 c),m9 k0 (G2 hb),h]
 ·rw[PC (by rw[OV];omega),PC (by rw[OV];omega)]at h;exact h
set_option maxRecDepth 100000
open Go Go.Xe Go.Sx
def vcRbel (n:Nat):Prop:=
 ∀a f g h i j k l m o b,(qF (.lst a::.lst f::J8 g h i j k l m o [.int b])/\nG (.lst a::.lst f::J8 g h i j k l m o [.int b])<n+1)->Nd (zZ [.lst a,.int b] [.int 0,.lst (b8 1 1 [.int b])]) (∀c d,zZ [.lst a,.int b] [.int c,.lst d]->Nb b (ln a) ((c<ln (cL a b 10)->Nb b (ln a) (Nb c (ln (cL a b 10))<|Nd (qF (.lst a::.lst f::J8 g h i j k l m o [.int (cI (cL a b 10) c 0)])/\nG (.lst a::.lst f::J8 g h i j k l m o [.int (cI (cL a b 10) c 0)])<n)<|∀p,qG (.lst a::.lst f::J8 g h i j k l m o [.int (cI (cL a b 10) c 0)]) [.lst p]->Ni (ln d) (Nd (ln d+ln p<67108865)<|Nr (ln d)<|Nd (I64 (c+1))<|Nq (ln d+ln p)<|Nd (zZ [.lst a,.int b] [.int (c+1),.lst (d++p)])<|Nd (Ks [.lst a,.int b] [.int (c+1),.lst (d++p)]<Ks [.lst a,.int b] [.int c,.lst d]) True)))/\(¬c<ln (cL a b 10)->Nq (ln d) (Nd (qG (.lst a::.lst f::J8 g h i j k l m o [.int b]) [.lst d]) True))))
def vcRbel_eq (n:Nat):kq Go.Proofs.Tryz.prog (cRbel.below nG (n+1)) vZ ((136,cRbel.below nG n)::Bd 0) (ET 0) 136=vcRbel n:=by kernel_rfl
def vcRtre0 (n:Nat)(a b:Sx.Rows)(c d f g h i j k l m:Int):Prop:=
 Nd (cG (.lst a::.lst b::J10 c d f g h i j k l m []) [.int 0,.str [],.str [],.lst [],.str [],.lst []]) True
def vcRtre (n:Nat):Prop:=
 ∀a g h i j k l m o p b c,(Y2 (.lst a::.lst g::J10 h i j k l m o p b c [])/\tK (.lst a::.lst g::J10 h i j k l m o p b c [])<n+1)->Nb b (ln a) ((c=0->vcRtre0 n a g h i j k l m o p b c)/\(¬c=0->((16<ln (cL a b 10)->vcRtre0 n a g h i j k l m o p b c)/\(¬16<ln (cL a b 10)->Nd (AH [.lst a,.int b,.int c,.lst (cL a b 10)] [.int 0,.int (cI a b 2),.str (cS a b 3),.str [],.lst (cL a b 4),.str (cS a b 5),.lst []]) (∀d q r s t u f,AH [.lst a,.int b,.int c,.lst (cL a b 10)] [.int d,.int q,.str r,.str s,.lst t,.str u,.lst f]->((d<ln (cL a b 10)->Nb d (ln (cL a b 10)) (Nd (I64 (c+(-1)))<|Nd (Y2 (.lst a::.lst g::J10 h i j k l m o p (cI (cL a b 10) d 0) (c+(-1)) [])/\tK (.lst a::.lst g::J10 h i j k l m o p (cI (cL a b 10) d 0) (c+(-1)) [])<n)<|∀v w x y z A,cG (.lst a::.lst g::J10 h i j k l m o p (cI (cL a b 10) d 0) (c+(-1)) []) [.int v,.str w,.str x,.lst y,.str z,.lst A]->Ni (ln f) (Nd (ln f+1<67108865)<|Nr (ln f)<|Nd (I64 (d+1))<|Nq (ln f+1)<|Nd (AH [.lst a,.int b,.int c,.lst (cL a b 10)] [.int (d+1),.int q,.str r,.str s,.lst t,.str u,.lst (f++b8 6 1 [.int v,.str w,.str x,.lst y,.str z,.lst A])])<|Nd (KB [.lst a,.int b,.int c,.lst (cL a b 10)] [.int (d+1),.int q,.str r,.str s,.lst t,.str u,.lst (f++b8 6 1 [.int v,.str w,.str x,.lst y,.str z,.lst A])]<KB [.lst a,.int b,.int c,.lst (cL a b 10)] [.int d,.int q,.str r,.str s,.lst t,.str u,.lst f]) True)))/\(¬d<ln (cL a b 10)->Nq (ln f) (Nd (cG (.lst a::.lst g::J10 h i j k l m o p b c []) [.int q,.str r,.str s,.lst t,.str u,.lst f]) True))))))))
def vcRtre_eq (n:Nat):kq Go.Proofs.Tryz.prog (cRtre.below tK (n+1)) vZ ((79,cRtre.below tK n)::Bd 0) (ET 0) 79=vcRtre n:=by kernel_rfl
def vcRfre :Prop:=
 ∀c d f g h i j k l m z A,Ap (.lst c::.lst d::J10 f g h i j k l m z A [])->Cg P3 M9 (.lst c::.lst d::J10 f g h i j k l m z A []) (fun R=>∀y,R [.int y]->((y<0->Nd (kV (.lst c::.lst d::J10 f g h i j k l m z A []) (.lst c::.lst d::J8 f g h i j k l m [.int 11])) True)/\(¬y<0->Nb y (ln c) ((cI c y 9<0->Cg L8 S9 (.lst c::.lst d::J8 f g h i j k l m []) (fun R=>∀B C D F G H I J K L,R (.lst B::.lst C::J8 D F G H I J K L [])->Cg qF qG (.lst c::.lst d::J8 f g h i j k l m [.int y]) (fun R=>∀a,R [.lst a]->Nq (ln B) (Nd (nI (.lst a::.lst c::.lst d::J8 f g h i j k l m []) (.int 0::.lst B::.lst C::J8 D F G H I J K L []))<|∀b p o q s r t u v w x,nI (.lst a::.lst c::.lst d::J8 f g h i j k l m []) (.int b::.lst p::.lst o::J8 q s r t u v w x [])->((b<ln a->Nb b (ln a) (Nb b (ln a)<|Nb (cI a b 0) (ln c)<|Nb (cI a b 0) (ln p)<|Nd (cI a b 0<ln p)<|Nb b (ln a)<|Nd (ln o+1<67108865)<|(1<ln o+1->Nd (I64 (q+(-1))) (Nd (I64 (r+1))<|Nd (I64 (b+1))<|Nq (ln o+1)<|Nq (ln p)<|Nd (nI (.lst a::.lst c::.lst d::J8 f g h i j k l m []) (.int (b+1)::.lst (a8 (a8 (a8 (a8 (a8 (a8 (a8 (a8 (a8 (a8 (a8 p (cI a b 0) 0 (.int (IntKind.wrap .u32 (cI c (cI a b 0) 0+1)))) (cI a b 0) 1 (.bool false)) (cI a b 0) 2 (.int 0)) (cI a b 0) 3 (.str [])) (cI a b 0) 4 (.lst [])) (cI a b 0) 5 (.str [])) (cI a b 0) 6 (.int 0)) (cI a b 0) 7 (.int 0)) (cI a b 0) 8 (.bool false)) (cI a b 0) 9 (.int 0)) (cI a b 0) 10 (.lst []))::.lst (b8 1 1 [.int (cI a b 0)]++o)::J8 (q+(-1)) s (r+1) t u v w x []))<|
 Nd (CP (.lst a::.lst c::.lst d::J8 f g h i j k l m []) (.int (b+1)::.lst (a8 (a8 (a8 (a8 (a8 (a8 (a8 (a8 (a8 (a8 (a8 p (cI a b 0) 0 (.int (IntKind.wrap .u32 (cI c (cI a b 0) 0+1)))) (cI a b 0) 1 (.bool false)) (cI a b 0) 2 (.int 0)) (cI a b 0) 3 (.str [])) (cI a b 0) 4 (.lst [])) (cI a b 0) 5 (.str [])) (cI a b 0) 6 (.int 0)) (cI a b 0) 7 (.int 0)) (cI a b 0) 8 (.bool false)) (cI a b 0) 9 (.int 0)) (cI a b 0) 10 (.lst []))::.lst (b8 1 1 [.int (cI a b 0)]++o)::J8 (q+(-1)) s (r+1) t u v w x [])<CP (.lst a::.lst c::.lst d::J8 f g h i j k l m []) (.int b::.lst p::.lst o::J8 q s r t u v w x [])) True))/\(¬1<ln o+1->Nd (I64 (q+(-1))) (Nd (I64 (r+1))<|Nd (I64 (b+1))<|Nd (¬ln (Sx.over (b8 1 1 [.int (cI a b 0)]) 1 o)<ln o+1)<|Nq (ln p)<|Nd (nI (.lst a::.lst c::.lst d::J8 f g h i j k l m []) (.int (b+1)::.lst (a8 (a8 (a8 (a8 (a8 (a8 (a8 (a8 (a8 (a8 (a8 p (cI a b 0) 0 (.int (IntKind.wrap .u32 (cI c (cI a b 0) 0+1)))) (cI a b 0) 1 (.bool false)) (cI a b 0) 2 (.int 0)) (cI a b 0) 3 (.str [])) (cI a b 0) 4 (.lst [])) (cI a b 0) 5 (.str [])) (cI a b 0) 6 (.int 0)) (cI a b 0) 7 (.int 0)) (cI a b 0) 8 (.bool false)) (cI a b 0) 9 (.int 0)) (cI a b 0) 10 (.lst []))::.lst (pQ (Sx.over (b8 1 1 [.int (cI a b 0)]) 1 o) 0 (ln o+1))::J8 (q+(-1)) s (r+1) t u v w x []))<|
 Nd (CP (.lst a::.lst c::.lst d::J8 f g h i j k l m []) (.int (b+1)::.lst (a8 (a8 (a8 (a8 (a8 (a8 (a8 (a8 (a8 (a8 (a8 p (cI a b 0) 0 (.int (IntKind.wrap .u32 (cI c (cI a b 0) 0+1)))) (cI a b 0) 1 (.bool false)) (cI a b 0) 2 (.int 0)) (cI a b 0) 3 (.str [])) (cI a b 0) 4 (.lst [])) (cI a b 0) 5 (.str [])) (cI a b 0) 6 (.int 0)) (cI a b 0) 7 (.int 0)) (cI a b 0) 8 (.bool false)) (cI a b 0) 9 (.int 0)) (cI a b 0) 10 (.lst []))::.lst (pQ (Sx.over (b8 1 1 [.int (cI a b 0)]) 1 o) 0 (ln o+1))::J8 (q+(-1)) s (r+1) t u v w x [])<CP (.lst a::.lst c::.lst d::J8 f g h i j k l m []) (.int b::.lst p::.lst o::J8 q s r t u v w x [])) True))))/\(¬b<ln a->Nq (ln p) (Nd (kV (.lst c::.lst d::J10 f g h i j k l m z A []) (.lst p::.lst o::J8 q s r t u v w x [.int 0])) True)))))))/\(¬cI c y 9<0->Nd (kV (.lst c::.lst d::J10 f g h i j k l m z A []) (.lst c::.lst d::J8 f g h i j k l m [.int 10])) True)))))
def vcRfre_eq :kq Go.Proofs.Tryz.prog cRfre vZ (Bd 1) (ET 1) 75=vcRfre:=by kernel_rfl
end Go.D
