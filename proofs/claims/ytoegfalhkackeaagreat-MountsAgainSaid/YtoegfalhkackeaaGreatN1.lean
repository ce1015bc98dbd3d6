/- Mounts: a tree that is put into a DOM: plain model.
  Conditions: none. -/
import Derived.Test.YtoegfalhkackeaaGreatK2
set_option maxRecDepth 100000
set_option linter.all false
noncomputable section
namespace Go.D
open Go Go.Xe Go.Sx
mutual
def G7 :a9->Nat
 | .mk _ _ _ a _ c=>1+a.length+mcosts c
def mcosts :List a9->Nat
 | []=>0|s::l=>G7 s+1+mcosts l
end
def setA (i g:Int)(D:DM)(a:Att):DM:=(fZ D i g ⟨a.n,false,a.v⟩ 1).1
mutual
def M2 (D:DM):a9->DM×Int×Int
 | .mk k t y a x c=>(mntC (D7 D k t x).2.1 (D7 D k t x).2.2.1 (a.foldl (setA (D7 D k t x).2.1 (D7 D k t x).2.2.1) (D7 D k t x).1) c,(D7 D k t x).2.1,(D7 D k t x).2.2.1)
def mntC (i g:Int)(D:DM):List a9->DM
 | []=>D|s::l=>mntC i g (gW (M2 D s).1 i g (M2 D s).2.1 (M2 D s).2.2 0 0).1 l
end
section
variable {D :DM}{K:Nat}{i g:Int}{c l m:List a9}{a b:List Att}{s:a9}
def uD :∀ {l m:List a9},mcosts (l++m)=mcosts l+mcosts m
 | [],m=>by simp[mcosts]|s::l,m=>by simp only[Uw,mcosts,uD (l:=l)];omega
def DD :∀ {l m:List a9} {D:DM},mntC i g D (l++m)=mntC i g (mntC i g D l) m
 | [],m,D=>by simp[mntC]|s::l,m,D=>by simp only[Uw,mntC];exact DD
def WF.setA (w:WF D K)(d:K+1<=1000){a:Att}:WF (setA i g D a) (K+1):=w.edt d
def WF.setAs :∀ {a:List Att} {D:DM} {K:Nat},WF D K->K+a.length<=1000->WF (a.foldl (Go.D.setA i g) D) (K+a.length)
 | [],D,K,w,_=>w|x::a,D,K,w,h=>by simp only[Ue]at h;have:=WF.setAs (a:=a) (w.setA (i:=i) (g:=g) (a:=x) (by omega)) (by omega);simp only[List.foldl_cons,Ue];rwa[show K+(a.length+1)=K+1+a.length by omega]
def Fs :J3 s->(s.k=1/\v5 s.t=true/\s.x=[])\/(s.k=2/\E8 s.x=true/\s.t=[]):=fun h=>by
 cases s;unfold J3 at h;rcases h.1 with h|h
 exact .inr ⟨h.1,h.2.1,h.2.2.1⟩;exact .inl ⟨h.1,h.2.1,h.2.2.2.1⟩
mutual
def WF.mnt :∀(s:a9) {D:DM} {K:Nat},WF D K->J3 s->K+G7 s<=1000->WF (M2 D s).1 (K+G7 s)
 | .mk k t y a x c,D,K,w,h,d=>by have hk:=Fs h;simp only[G7]at d;simp only[M2,G7];have h1:=w.cre (q:=k) (t:=t) (x:=x) (by omega) (by rcases hk with h|h;exact .inl h.1;exact .inr h.1);have h2:=WF.setAs (i:=(D7 D k t x).2.1) (g:=(D7 D k t x).2.2.1) (a:=a) h1 (by omega);have h3:=WF.mntC c (i:=(D7 D k t x).2.1) (g:=(D7 D k t x).2.2.1) h2 (by unfold J3 at h;exact h.2) (by omega);rwa[show K+(1+a.length+mcosts c)=K+1+a.length+mcosts c by omega]
def WF.mntC :∀(l:List a9) {D:DM} {K:Nat} {i g:Int},WF D K->AllAs l->K+mcosts l<=1000->WF (Go.D.mntC i g D l) (K+mcosts l)
 | [],D,K,i,g,w,_,_=>w|s::l,D,K,i,g,w,h,d=>by simp only[mcosts]at d;simp only[Go.D.mntC,mcosts];unfold AllAs at h;have h1:=WF.mnt s w h.1 (by omega);have h2:=h1.ins (i:=i) (g:=g) (j:=(M2 D s).2.1) (m:=(M2 D s).2.2) (x:=0) (y:=0) (by omega);have h3:=WF.mntC l (i:=i) (g:=g) h2 h.2 (by omega);rwa[show K+(G7 s+1+mcosts l)=K+G7 s+1+mcosts l by omega]
end
def LW (w:WF D K)(e:K+1<=1000){k:Int}{t x:Str}(h:(k=1/\v5 t=true/\x=[])\/(k=2/\E8 x=true/\t=[])):(D7 D k t x).2.2.2=0/\U32 (D7 D k t x).2.1/\U32 (D7 D k t x).2.2.1:=by
 have hn:¬((k=1/\v5 t=false)\/(k=2/\E8 x=false)):=by rcases h with⟨h1,h2,_⟩| ⟨h1,h2,_⟩;rintro (⟨_,h3⟩| ⟨h3,_⟩);rw[h2]at h3;cases h3;omega;rintro (⟨h3,_⟩| ⟨_,h3⟩);omega;rw[h2]at h3;cases h3
 unfold D7;rw[TH hn];obtain⟨f,g',l,e1,e2,e3,e4,e5,j,o,_⟩:=DM.take_spec (n:=D9 k t x) w e;have:=(Tn.1 e5).1;have d:(D.take (D9 k t x)).1.gen f=g':=by unfold DM.gen;rw[e5]
 simp only[e1,d];unfold U32;refine⟨trivial,?_,?_⟩<;>omega
mutual
def Du :∀s:a9,J3 s->G7 s+1<=10*s.size
 | .mk k t y a x c,h=>by
  unfold J3 at h;have d:a.length<=8:=by rcases h.1 with h|h;have:a=[]:=h.2.2.2.2.1;simp[this];exact h.2.2.2.2.1
  have:=mcosts_le c h.2;simp only[G7,a9.size];omega
def mcosts_le :∀l:List a9,AllAs l->mcosts l<=10*a9.sizes l
 | [],_=>by simp[mcosts]|s::l,h=>by unfold AllAs at h;have:=Du s h.1;have:=mcosts_le l h.2;simp only[mcosts,a9.sizes];omega
end
end
def Be :Ar->Prop
 | [.int k,.str t,.str y,.lst a,.str x,.lst c,.lst S,.int fr,.int lv,.int c0,.int c1,.int c2,.int c3,.int c4,.int c5,.int c6,.int c7,.lst _,.lst N]=>∃s D K,isT s k t y a x c/\J3 s/\RlC D S N fr lv [c0,c1,c2,c3,c4,c5,c6,c7]/\WF D K/\K+G7 s<=1000|_=>False
def lJ :Ar->Ar->Prop
 | [.int k,.str t,.str y,.lst a,.str x,.lst c,.lst S,.int fr,.int lv,.int c0,.int c1,.int c2,.int c3,.int c4,.int c5,.int c6,.int c7,.lst _,.lst N],[.int i,.int g,.int r,.lst S',.int fr',.int lv',.int c0',.int c1',.int c2',.int c3',.int c4',.int c5',.int c6',.int c7',.lst _,.lst N']=>
  r=0/\U32 i/\U32 g/\Fr S N S' N'/\ ∀s D K,isT s k t y a x c->J3 s->RlC D S N fr lv [c0,c1,c2,c3,c4,c5,c6,c7]->WF D K->K+G7 s<=1000->RlC (M2 D s).1 S' N' fr' lv' [c0',c1',c2',c3',c4',c5',c6',c7']/\(i,g)=(M2 D s).2
 |_,_=>False
def DC :Ar->Nat
 |_::_::_::_::_:: .lst c::_=>szRs c|_=>0
def mn1B :List bW:=tC++ [(25,1,[.ptr 0 13]),(99,1,[.clo 43 [(2,1),(3,1)]])]
def mn1F :As->SS->Bb (Ah):=fun args s=>match args,rgB s with
 | [_,.ptr d _ _ _,.ptr q _ _ _],some r=>match s.get d with
  |some (.cells [.ptr e _ _ _] _ _)=>some [e,r,d,q]|_=>none
 |_,_=>none
def cMn1 :Con:=⟨ "mn1",[nV,.one (.ptr 2 1),.one (.ptr 3 1)],mn1B,mn1F,Be,[hV,iV],mn1B,noB,lJ⟩
def QB :List G:=[.acc Oi 4,.int .i64,.int .i64,.int .i64,.int .i64,.int .i64,.int .i64,.int .i64,.int .i64,.int .i64,.int .i64,.bool,.lst Oj]
def mnB (all:Bool):Fm->SS->Bb (List (Nat×List G)):=fun f s=>match lk f 1,lk f 2 with
 |some (.ptr d _ _ _),some (.ptr q _ _ _)=>match s.get d with
  |some (.cells [.ptr e _ _ _] _ _)=>some ((e,QB)::if all then [(d,[.keep]),(q,[.keep])]else [])|_=>none
 |_,_=>none
def Bf :Ar->Ar->Prop
 | [.lst N,.lst S,.int fr,.int lv,.int c0,.int c1,.int c2,.int c3,.int c4,.int c5,.int c6,.int c7,.int i,.int g,.lst A],[.lst N',.int j,.lst S',.int fr',.int lv',.int c0',.int c1',.int c2',.int c3',.int c4',.int c5',.int c6',.int c7',.bool z,.lst _]=>
  z=false/\0<=j/\j<=A.length/\Fr S N S' N'/\ ∀(a:List Att) D K,A=a.map Att.row->RlC D S N fr lv [c0,c1,c2,c3,c4,c5,c6,c7]->WF D K->K+a.length<=1000->RlC ((a.take j.toNat).foldl (setA i g) D) S' N' fr' lv' [c0',c1',c2',c3',c4',c5',c6',c7']
 |_,_=>False
def Bg :Ar->Ar->Prop
 | [.lst N,.lst S,.int fr,.int lv,.int c0,.int c1,.int c2,.int c3,.int c4,.int c5,.int c6,.int c7,.int i,.int g,.lst C],[.lst N',.int j,.lst S',.int fr',.int lv',.int c0',.int c1',.int c2',.int c3',.int c4',.int c5',.int c6',.int c7',.bool z,.lst _]=>
  z=false/\0<=j/\j<=C.length/\Fr S N S' N'/\ ∀c D K,C=rows c->AllAs c->RlC D S N fr lv [c0,c1,c2,c3,c4,c5,c6,c7]->WF D K->K+mcosts c<=1000->RlC (mntC i g D (c.take j.toNat)) S' N' fr' lv' [c0',c1',c2',c3',c4',c5',c6',c7']
 |_,_=>False
def Ia :Ar->Ar->Nat
 | [_,_,_,_,_,_,_,_,_,_,_,_,_,_,.lst A],_:: .int j::_=>(A.length-j).toNat|_,_=>0
abbrev MH:=Ia
def Lw :Ay->List (Nat×(Fm->SS->J0))
 | 43 => [(0, L4 U0 "mna" (mkPr rgR [(37, .int .i64)] (mnB false)) (gh2 (gh2 lN domG) (gh2 (gh2 (C5 6 0) (C5 6 1)) (y7 35))) Bf Ia),
   (2,L4 U0 "mnc" (mkPr rgR [(52,.int .i64)] (mnB true)) (gh2 (gh2 lN domG) (gh2 (gh2 (C5 6 0) (C5 6 1)) (y7 50))) Bg MH)]
 |_=>[]
def IV :Nat->List (Ay×Con)
 |_=>[(61,cCre),(89,cEdt),(27,cIns),(46,cFre),(LVn,cYes "lives")]
def Py :Nat->Aw->G1:=fun _ _=>[]
open Go Go.Xe Go.Sx
def vcMn1 (n:Nat):Prop:=
 ∀x0 x1 x2 f x4 b h x y z A B C D F G H I J,(Be (.int x0::.str x1::.str x2::.lst f::.str x4::.lst b::JD h x y z A B C D F G H I J)/\DC (.int x0::.str x1::.str x2::.lst f::.str x4::.lst b::JD h x y z A B C D F G H I J)<n+1)->((x0=2->Ni (ln h) (Nr (ln h)<|Nd (AM (.int 2::.str []::.str []::.lst []::.str x4::.lst []::JD h x y z A B C D F G H I J))<|∀c d x21 g l m o p q r s t u v x33 w,gQ (.int 2::.str []::.str []::.lst []::.str x4::.lst []::JD h x y z A B C D F G H I J) (.int c::.int d::.int x21::JD g l m o p q r s t u v x33 w)->Ni (ln g) (Nr (ln g)<|Nd (lJ (.int x0::.str x1::.str x2::.lst f::.str x4::.lst b::JD h x y z A B C D F G H I J) (.int c::.int d::.int x21::JD g l m o p q r s t u v x33 w)) True)))/\(¬x0=2->Ni (ln h) (Nr (ln h)<|Nd (AM (.int 1::.str x1::.str []::.lst []::.str []::.lst []::JD h x y z A B C D F G H I J))<|∀c d x21 g l m o p q r s t u v x33 w,gQ (.int 1::.str x1::.str []::.lst []::.str []::.lst []::JD h x y z A B C D F G H I J) (.int c::.int d::.int x21::JD g l m o p q r s t u v x33 w)->((x21=0->Ni (ln g) (Nr (ln g)<|Nd (Bf (.lst w::.lst g::J10 l m o p q r s t u v [.int c,.int d,.lst f]) (.lst w::.int 0::.lst g::J10 l m o p q r s t u v [.bool false,.lst x33]))<|∀K k i L M N O P Q R S T U x48 x49,Bf (.lst w::.lst g::J10 l m o p q r s t u v [.int c,.int d,.lst f]) (.lst K::.int k::.lst i::J10 L M N O P Q R S T U [.bool x48,.lst x49])->((k<ln f->Nd (¬k<0) (Nd (k<ln f)<|Ni (ln i)<|Nr (ln i)<|Nd (¬x48=true)<|Nd (FF (.int c::.int d::.str (cS f k 0)::.bool false::.str (cS f k 1)::.int 1::JD i L M N O P Q R S T U x49 K))<|∀x50 a j V W X Y Z x58 x59 x60 x61 x62 x63,gT (.int c::.int d::.str (cS f k 0)::.bool false::.str (cS f k 1)::.int 1::JD i L M N O P Q R S T U x49 K) (.int x50::JD a j V W X Y Z x58 x59 x60 x61 x62 x63)->Nd (I64 (k+1)) (Ni (ln a)<|Nr (ln a)<|Nd (Bf (.lst w::.lst g::J10 l m o p q r s t u v [.int c,.int d,.lst f]) (.lst x63::.int (k+1)::.lst a::J10 j V W X Y Z x58 x59 x60 x61 [.bool false,.lst x62]))<|
 Nd (Ia (.lst w::.lst g::J10 l m o p q r s t u v [.int c,.int d,.lst f]) (.lst x63::.int (k+1)::.lst a::J10 j V W X Y Z x58 x59 x60 x61 [.bool false,.lst x62])<Ia (.lst w::.lst g::J10 l m o p q r s t u v [.int c,.int d,.lst f]) (.lst K::.int k::.lst i::J10 L M N O P Q R S T U [.bool x48,.lst x49])) True)))/\(¬k<ln f->Ni (ln i) (Nr (ln i)<|Nd (Bg (.lst K::.lst i::J10 L M N O P Q R S T U [.int c,.int d,.lst b]) (.lst K::.int 0::.lst i::J10 L M N O P Q R S T U [.bool x48,.lst x49]))<|∀x50 a j V W X Y Z x58 x59 x60 x61 x62 x63 x64,Bg (.lst K::.lst i::J10 L M N O P Q R S T U [.int c,.int d,.lst b]) (.lst x50::.int a::.lst j::J10 V W X Y Z x58 x59 x60 x61 x62 [.bool x63,.lst x64])->((a<ln b->Nd (¬a<0) (Nd (a<ln b)<|Ni (ln j)<|Nr (ln j)<|Nd (¬x63=true)<|Nd (Be (.int (cI b a 0)::.str (cS b a 1)::.str (cS b a 2)::.lst (cL b a 3)::.str (cS b a 4)::.lst (cL b a 5)::JD j V W X Y Z x58 x59 x60 x61 x62 x64 x50)/\DC (.int (cI b a 0)::.str (cS b a 1)::.str (cS b a 2)::.lst (cL b a 3)::.str (cS b a 4)::.lst (cL b a 5)::JD j V W X Y Z x58 x59 x60 x61 x62 x64 x50)<n)<|
 ∀x65 x66 x67 x68 x69 x70 x71 x72 x73 x74 x75 x76 x77 x78 x79 x80,lJ (.int (cI b a 0)::.str (cS b a 1)::.str (cS b a 2)::.lst (cL b a 3)::.str (cS b a 4)::.lst (cL b a 5)::JD j V W X Y Z x58 x59 x60 x61 x62 x64 x50) (.int x65::.int x66::.int x67::JD x68 x69 x70 x71 x72 x73 x74 x75 x76 x77 x78 x79 x80)->((x67=0->Ni (ln x68) (Nr (ln x68)<|Nd (FM (J6 c d x65 x66 0 0 (JD x68 x69 x70 x71 x72 x73 x74 x75 x76 x77 x78 x79 x80)))<|∀x81 x82 x83 x84 x85 x86 x87 x88 x89 x90 x91 x92 x93 x94,eH (J6 c d x65 x66 0 0 (JD x68 x69 x70 x71 x72 x73 x74 x75 x76 x77 x78 x79 x80)) (.int x81::JD x82 x83 x84 x85 x86 x87 x88 x89 x90 x91 x92 x93 x94)->Nd (I64 (a+1)) (Ni (ln x82)<|Nr (ln x82)<|Nd (Bg (.lst K::.lst i::J10 L M N O P Q R S T U [.int c,.int d,.lst b]) (.lst x94::.int (a+1)::.lst x82::J10 x83 x84 x85 x86 x87 x88 x89 x90 x91 x92 [.bool false,.lst x93]))<|
 Nd (MH (.lst K::.lst i::J10 L M N O P Q R S T U [.int c,.int d,.lst b]) (.lst x94::.int (a+1)::.lst x82::J10 x83 x84 x85 x86 x87 x88 x89 x90 x91 x92 [.bool false,.lst x93])<MH (.lst K::.lst i::J10 L M N O P Q R S T U [.int c,.int d,.lst b]) (.lst x50::.int a::.lst j::J10 V W X Y Z x58 x59 x60 x61 x62 [.bool x63,.lst x64])) True)))/\(¬x67=0->Ni (ln x68) (Nr (ln x68)<|Nd (tK (.int c::.int d::JD x68 x69 x70 x71 x72 x73 x74 x75 x76 x77 x78 x79 x80))<|∀x81 x82 x83 x84 x85 x86 x87 x88 x89 x90 x91 x92 x93 x94,lD (.int c::.int d::JD x68 x69 x70 x71 x72 x73 x74 x75 x76 x77 x78 x79 x80) (.int x81::JD x82 x83 x84 x85 x86 x87 x88 x89 x90 x91 x92 x93 x94)->Ni (ln x82) (Nr (ln x82)<|Nd (lJ (.int x0::.str x1::.str x2::.lst f::.str x4::.lst b::JD h x y z A B C D F G H I J) (.int 0::.int 0::.int x67::JD x82 x83 x84 x85 x86 x87 x88 x89 x90 x91 x92 x93 x94)) True))))))/\(¬a<ln b->Ni (ln j) (Nr (ln j)<|Nd (¬x63=true)<|Nd (lJ (.int x0::.str x1::.str x2::.lst f::.str x4::.lst b::JD h x y z A B C D F G H I J) (.int c::.int d::.int 0::JD j V W X Y Z x58 x59 x60 x61 x62 x64 x50)) True))))))))/\(¬x21=0->Ni (ln g) (Nr (ln g)<|Nd (lJ (.int x0::.str x1::.str x2::.lst f::.str x4::.lst b::JD h x y z A B C D F G H I J) (.int c::.int d::.int x21::JD g l m o p q r s t u v x33 w)) True))))))
def vcMn1_eq (n:Nat):kq Go.Proofs.Tryz.prog (cMn1.below DC (n+1)) Lw ((43,cMn1.below DC n)::IV 0) (Py 0) 43=vcMn1 n:=by kernel_rfl
