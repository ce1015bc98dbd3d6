/- The DOM: a root and all below it are freed: model and contract (the closure of Free).
  Conditions: none. -/
import Derived.Test.YtoegfalhkackeaaGreatG3
set_option maxRecDepth 100000
set_option linter.all false
noncomputable section
namespace Go.D
open Go Go.Xe Go.Sx
def B8 (D:DM)(c:Nat):DM:=⟨D.L.modify c fun s=>⟨s.g+1,false,K5 0 [] []⟩,c::D.free,D.C⟩
def bel (D:DM):Nat->Nat->Ah
 |0,c=>[c]
 |f+1,c=>c::(D.nod c).ch.flatMap (bel D f)
def RlX (D:DM)(X:Ah)(S N:Sx.Rows)(fr lv:Int):Prop:=Rl D.gen (X.foldl B8 D) S N fr lv
def sJ :Ar->Prop
 | [.int i,.int g,.lst S,.int fr,.int lv,.int _,.int _,.int _,.int _,.int _,.int _,.int _,.int _,.lst _,.lst N,.lst Q,.lst W]=>U32 i/\U32 g/\Q.length+S.countP (fun r=>(r.getD 1 (.int 0)).toBool)<=1000/\W.length=Q.length/\ ∃D X K c,RlX D X S N fr lv/\WF D K/\D.at i g=some c/\ ∀b∈bel D 1001 c,b∉X|_=>False
def sK :Ar->Ar->Prop
 | [.int i,.int g,.lst S,.int fr,.int lv,.int a,.int b,.int c,.int d,.int e,.int f,.int h,.int m,.lst _,.lst N,.lst Q,.lst W],[.lst S',.int fr',.int lv',.int a',.int b',.int c',.int d',.int e',.int f',.int h',.int m',.lst _,.lst N',.lst Q',.lst W']=>
  [a',b',c',d',e',f',h',m']=[a,b,c,d,e,f,h,m]/\N'=N/\W'.length=Q'.length/\Fr S N S' N'/\ ∀D X K c,RlX D X S N fr lv->WF D K->D.at i g=some c->(∀b∈bel D 1001 c,b∉X)->RlX D (X++bel D 1001 c) S' N' fr' lv'/\Q'.length=Q.length+(bel D 1001 c).length
 |_,_=>False
def xE :Ar->Nat
 |_::_:: .lst S::_=>S.countP fun r=>(r.getD 1 (.int 0)).toBool
 |_=>0
def frcB :List bX:=wC++ [(25,1,[.ptr 0 13]),(41,1,[.g (.acc tHd 2)]),(156,1,[.g (.acc 131 1)]),(157,1,[.clo 91 [(2,1),(3,1),(4,1),(5,1)]])]
def frcF :As->SS->Bb (Ah):=fun args s=>match args,rgB s with
 | [_,.ptr d _ _ _,.ptr a _ _ _,.ptr b _ _ _,.ptr c _ _ _],some r=>match s.get d with
  |some (.cells [.ptr e _ _ _] _ _)=>some [e,r,d,a,b,c]|_=>none
 |_,_=>none
def cFrc :Con:=⟨ "frc",[hV,.one (.ptr 2 1),.one (.ptr 3 1),.one (.ptr 4 1),.one (.ptr 5 1)],frcB,frcF,sJ,[],frcB,noB,sK⟩
def frlB :Fm->SS->Bb (List (Nat×List G)):=fun f s=>match lk f 1,lk f 2,lk f 3,lk f 4 with
 |some (.ptr d _ _ _),some (.ptr a _ _ _),some (.ptr b _ _ _),some (.ptr q _ _ _)=>match s.get d with
  |some (.cells [.ptr e _ _ _] _ _)=>some [(e,[.acc Mx 4,.int .i64,.int .i64,.int .i64,.int .i64,.int .i64,.int .i64,.int .i64,.int .i64,.int .i64,.int .i64,.bool,.lst My]),(a,[.acc tHd 2]),(b,[.acc 131 1]),(d,[.keep]),(q,[.keep])]|_=>none
 |_,_,_,_=>none
def rgR :Fm->SS->List (At×G):=fun _ s=>match rgB s with
 |some r=>[(.no,.rgk r 10)]
 |none=>[]
def domG :Fm->SS->List (So×E):=fun f s=>match lk f 1 with
 |some (.ptr d _ _ _)=>match s.get d with
  |some (.cells [.ptr e _ _ _] _ _)=>match s.get e with
   |some (.cells (c::l) _ _)=>slG c s++(l.take 10).flatMap svG|_=>[]
  |_=>[]
 |_=>[]
def lstG (t:Nat):Fm->SS->List (So×E):=fun f s=>match lk f t with
 |some (.ptr d _ _ _)=>match s.get d with
  |some (.cells [c] _ _)=>slG c s|_=>[]
 |_=>[]
def kD :Ar->Ar->Prop
 | [.lst N,.lst L,.lst S,.int fr,.int lv,.int a,.int b,.int c,.int d,.int e,.int f,.int h,.int m,.lst Q,.lst W],[.lst N',.int j,.lst S',.int fr',.int lv',.int a',.int b',.int c',.int d',.int e',.int f',.int h',.int m',.bool z,.lst _,.lst Q',.lst W']=>
  N'=N/\z=false/\[a',b',c',d',e',f',h',m']=[a,b,c,d,e,f,h,m]/\0<=j/\j<=L.length/\W'.length=Q'.length/\Q'.length+S'.countP (fun r=>(r.getD 1 (.int 0)).toBool)<=1000/\S'.countP (fun r=>(r.getD 1 (.int 0)).toBool)<=S.countP (fun r=>(r.getD 1 (.int 0)).toBool)/\Fr S N S' N/\
   ∀D X K (q:Nat) sq,RlX D X S N fr lv->WF D K->D.L[q]? =some sq->sq.used=true->L=sq.n.ch.map (F5 D.gen)->(∀b∈sq.n.ch.flatMap (bel D 1001),b∉X)->RlX D (X++(sq.n.ch.take j.toNat).flatMap (bel D 1001)) S' N fr' lv'/\Q'.length=Q.length+((sq.n.ch.take j.toNat).flatMap (bel D 1001)).length
 |_,_=>False
def CC :Ar->Ar->Nat
 |_:: .lst L::_,_:: .int j::_=>(L.length-j).toNat|_,_=>0
def OG :Ay->List (Nat×(Fm->SS->K0))
 |91=>[(0,P8 U0 "frl" (mkPr rgR [(32,.int .i64)] frlB) (gh2 (gh2 kL (B0 30)) (gh2 domG (gh2 (lstG 2) (lstG 3)))) kD CC)]
 |_=>[]
def Ql :Nat->List (Ay×Con)
 |_=>[(LVn,cYes "lives")]
def PZ :Nat->Aw->I9:=bN
open Go Go.Xe Go.Sx
def vcFrc0 (n:Nat)(a:Sx.Rows)(d:Bool)(b c:Sx.Rows)(f g:Int)(h:Sx.Rows)(i j k l m o p q r s:Int)(t u v w:Sx.Rows)(x y z A B C D F G H:Int)(I J:Sx.Rows):Prop:=
 Nq (ln a)<|Nd (¬d=true)<|Nq (ln b)<|Nq (ln c)<|Nd (sK (.int f::.int g::.lst h::J10 i j k l m o p q r s [.lst t,.lst u,.lst v,.lst w]) (.lst a::J10 x y z A B C D F G H [.lst I,.lst J,.lst b,.lst c])) True
def vcFrc (n:Nat):Prop:=
 ∀a h b j i k l m o p q r s Z c d f,(sJ (.int a::.int h::.lst b::J10 j i k l m o p q r s [.lst Z,.lst c,.lst d,.lst f])/\xE (.int a::.int h::.lst b::J10 j i k l m o p q r s [.lst Z,.lst c,.lst d,.lst f])<n+1)->Nd ((¬a<0)/\a<18446744073709551616) (Nd ((¬ln b<0)/\ln b<18446744073709551616)<|(a<ln b->Nb a (ln b) (Nd (a<ln b)<|(cB b a 1=true->Nd (a<ln b) ((cI b a 0=h->Nd (a<ln b) (Nd (a<ln b)<|Nd (a<ln b)<|Nd (I64 (i+(-1)))<|Nd (a<ln b)<|(cI b a 0<4294967295->Nd (a<ln b) (Nd (a<ln b)<|Nb a (ln b)<|Nd (a<ln b)<|Nd (I64 a)<|Nd (I64 (a+1))<|Ni (ln d)<|Nd (ln d+1<67108865)<|Nr (ln d)<|Ni (ln f)<|Nd (ln f+1<67108865)<|Nr (ln f)<|Nb (cI b a 3) (ln c)<|Nq (ln b)<|Nq (ln d+1)<|Nq (ln f+1)<|Nd (kD (.lst c::.lst (cL c (cI b a 3) 9)::.lst (i7 (i7 (i7 (i7 b a 1 (.bool false)) a 3 (.int (-1))) a 0 (.int (IntKind.wrap .u32 (cI b a 0+1)))) a 2 (.int j))::J10 (a+1) (i+(-1)) k l m o p q r s [.lst (d++d8 2 1 [.int a,.int h]),.lst (f++d8 1 1 [.int (cI b a 3)])]) (.lst c::.int 0::.lst (i7 (i7 (i7 (i7 b a 1 (.bool false)) a 3 (.int (-1))) a 0 (.int (IntKind.wrap .u32 (cI b a 0+1)))) a 2 (.int j))::J10 (a+1) (i+(-1)) k l m o p q r s [.bool false,.lst Z,.lst (d++d8 2 1 [.int a,.int h]),.lst (f++d8 1 1 [.int (cI b a 3)])]))<|
 ∀w g t x y z A B C D F G H J I u v,kD (.lst c::.lst (cL c (cI b a 3) 9)::.lst (i7 (i7 (i7 (i7 b a 1 (.bool false)) a 3 (.int (-1))) a 0 (.int (IntKind.wrap .u32 (cI b a 0+1)))) a 2 (.int j))::J10 (a+1) (i+(-1)) k l m o p q r s [.lst (d++d8 2 1 [.int a,.int h]),.lst (f++d8 1 1 [.int (cI b a 3)])]) (.lst w::.int g::.lst t::J10 x y z A B C D F G H [.bool J,.lst I,.lst u,.lst v])->((g<ln (cL c (cI b a 3) 9)->Nb g (ln (cL c (cI b a 3) 9)) (Nq (ln t)<|Nd (¬J=true)<|Nq (ln u)<|Nq (ln v)<|Nd (sJ (.int (cI (cL c (cI b a 3) 9) g 0)::.int (cI (cL c (cI b a 3) 9) g 1)::.lst t::J10 x y z A B C D F G H [.lst I,.lst w,.lst u,.lst v])/\xE (.int (cI (cL c (cI b a 3) 9) g 0)::.int (cI (cL c (cI b a 3) 9) g 1)::.lst t::J10 x y z A B C D F G H [.lst I,.lst w,.lst u,.lst v])<n)<|
 ∀K N O P Q R S T U V W X Y L M,sK (.int (cI (cL c (cI b a 3) 9) g 0)::.int (cI (cL c (cI b a 3) 9) g 1)::.lst t::J10 x y z A B C D F G H [.lst I,.lst w,.lst u,.lst v]) (.lst K::J10 N O P Q R S T U V W [.lst X,.lst Y,.lst L,.lst M])->Nd (I64 (g+1)) (Nq (ln K)<|Nq (ln L)<|Nq (ln M)<|Nd (kD (.lst c::.lst (cL c (cI b a 3) 9)::.lst (i7 (i7 (i7 (i7 b a 1 (.bool false)) a 3 (.int (-1))) a 0 (.int (IntKind.wrap .u32 (cI b a 0+1)))) a 2 (.int j))::J10 (a+1) (i+(-1)) k l m o p q r s [.lst (d++d8 2 1 [.int a,.int h]),.lst (f++d8 1 1 [.int (cI b a 3)])]) (.lst Y::.int (g+1)::.lst K::J10 N O P Q R S T U V W [.bool false,.lst X,.lst L,.lst M]))<|
 Nd (CC (.lst c::.lst (cL c (cI b a 3) 9)::.lst (i7 (i7 (i7 (i7 b a 1 (.bool false)) a 3 (.int (-1))) a 0 (.int (IntKind.wrap .u32 (cI b a 0+1)))) a 2 (.int j))::J10 (a+1) (i+(-1)) k l m o p q r s [.lst (d++d8 2 1 [.int a,.int h]),.lst (f++d8 1 1 [.int (cI b a 3)])]) (.lst Y::.int (g+1)::.lst K::J10 N O P Q R S T U V W [.bool false,.lst X,.lst L,.lst M])<CC (.lst c::.lst (cL c (cI b a 3) 9)::.lst (i7 (i7 (i7 (i7 b a 1 (.bool false)) a 3 (.int (-1))) a 0 (.int (IntKind.wrap .u32 (cI b a 0+1)))) a 2 (.int j))::J10 (a+1) (i+(-1)) k l m o p q r s [.lst (d++d8 2 1 [.int a,.int h]),.lst (f++d8 1 1 [.int (cI b a 3)])]) (.lst w::.int g::.lst t::J10 x y z A B C D F G H [.bool J,.lst I,.lst u,.lst v])) True)))/\(¬g<ln (cL c (cI b a 3) 9)->vcFrc0 n t J u v a h b j i k l m o p q r s Z c d f x y z A B C D F G H I w))))/\(¬cI b a 0<4294967295->Ni (ln d) (Nd (ln d+1<67108865)<|Nr (ln d)<|Ni (ln f)<|Nd (ln f+1<67108865)<|Nr (ln f)<|Nb (cI b a 3) (ln c)<|Nq (ln b)<|Nq (ln d+1)<|Nq (ln f+1)<|Nd (kD (.lst c::.lst (cL c (cI b a 3) 9)::.lst (i7 (i7 b a 1 (.bool false)) a 3 (.int (-1)))::J10 j (i+(-1)) k l m o p q r s [.lst (d++d8 2 1 [.int a,.int h]),.lst (f++d8 1 1 [.int (cI b a 3)])]) (.lst c::.int 0::.lst (i7 (i7 b a 1 (.bool false)) a 3 (.int (-1)))::J10 j (i+(-1)) k l m o p q r s [.bool false,.lst Z,.lst (d++d8 2 1 [.int a,.int h]),.lst (f++d8 1 1 [.int (cI b a 3)])]))<|
 ∀w g t x y z A B C D F G H J I u v,kD (.lst c::.lst (cL c (cI b a 3) 9)::.lst (i7 (i7 b a 1 (.bool false)) a 3 (.int (-1)))::J10 j (i+(-1)) k l m o p q r s [.lst (d++d8 2 1 [.int a,.int h]),.lst (f++d8 1 1 [.int (cI b a 3)])]) (.lst w::.int g::.lst t::J10 x y z A B C D F G H [.bool J,.lst I,.lst u,.lst v])->((g<ln (cL c (cI b a 3) 9)->Nb g (ln (cL c (cI b a 3) 9)) (Nq (ln t)<|Nd (¬J=true)<|Nq (ln u)<|Nq (ln v)<|Nd (sJ (.int (cI (cL c (cI b a 3) 9) g 0)::.int (cI (cL c (cI b a 3) 9) g 1)::.lst t::J10 x y z A B C D F G H [.lst I,.lst w,.lst u,.lst v])/\xE (.int (cI (cL c (cI b a 3) 9) g 0)::.int (cI (cL c (cI b a 3) 9) g 1)::.lst t::J10 x y z A B C D F G H [.lst I,.lst w,.lst u,.lst v])<n)<|
 ∀K N O P Q R S T U V W X Y L M,sK (.int (cI (cL c (cI b a 3) 9) g 0)::.int (cI (cL c (cI b a 3) 9) g 1)::.lst t::J10 x y z A B C D F G H [.lst I,.lst w,.lst u,.lst v]) (.lst K::J10 N O P Q R S T U V W [.lst X,.lst Y,.lst L,.lst M])->Nd (I64 (g+1)) (Nq (ln K)<|Nq (ln L)<|Nq (ln M)<|Nd (kD (.lst c::.lst (cL c (cI b a 3) 9)::.lst (i7 (i7 b a 1 (.bool false)) a 3 (.int (-1)))::J10 j (i+(-1)) k l m o p q r s [.lst (d++d8 2 1 [.int a,.int h]),.lst (f++d8 1 1 [.int (cI b a 3)])]) (.lst Y::.int (g+1)::.lst K::J10 N O P Q R S T U V W [.bool false,.lst X,.lst L,.lst M]))<|
 Nd (CC (.lst c::.lst (cL c (cI b a 3) 9)::.lst (i7 (i7 b a 1 (.bool false)) a 3 (.int (-1)))::J10 j (i+(-1)) k l m o p q r s [.lst (d++d8 2 1 [.int a,.int h]),.lst (f++d8 1 1 [.int (cI b a 3)])]) (.lst Y::.int (g+1)::.lst K::J10 N O P Q R S T U V W [.bool false,.lst X,.lst L,.lst M])<CC (.lst c::.lst (cL c (cI b a 3) 9)::.lst (i7 (i7 b a 1 (.bool false)) a 3 (.int (-1)))::J10 j (i+(-1)) k l m o p q r s [.lst (d++d8 2 1 [.int a,.int h]),.lst (f++d8 1 1 [.int (cI b a 3)])]) (.lst w::.int g::.lst t::J10 x y z A B C D F G H [.bool J,.lst I,.lst u,.lst v])) True)))/\(¬g<ln (cL c (cI b a 3) 9)->vcFrc0 n t J u v a h b j i k l m o p q r s Z c d f x y z A B C D F G H I w))))))/\(¬cI b a 0=h->Ni (ln d) (Nd (ln d+1<67108865)<|Nr (ln d)<|Ni (ln f)<|Nd (ln f+1<67108865)<|Nr (ln f) False))))/\(¬cB b a 1=true->Ni (ln d) (Nd (ln d+1<67108865)<|Nr (ln d)<|Ni (ln f)<|Nd (ln f+1<67108865)<|Nr (ln f) False))))/\(¬a<ln b->Ni (ln d) (Nd (ln d+1<67108865)<|Nr (ln d)<|Ni (ln f)<|Nd (ln f+1<67108865)<|Nr (ln f) False)))
def vcFrc_eq (n:Nat):kq Go.Proofs.Tryz.prog (cFrc.below xE (n+1)) OG ((91,cFrc.below xE n)::Ql 0) (PZ 0) 91=vcFrc n:=by kernel_rfl
