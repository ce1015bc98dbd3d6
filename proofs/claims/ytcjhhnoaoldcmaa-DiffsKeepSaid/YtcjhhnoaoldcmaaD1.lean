/- The writer of a diff: contracts. How many steps of each kind it writes, and where.
  Conditions: none. -/
import Derived.Test.YtcjhhnoaoldcmaaC1
import Derived.Test.YtcjhhnoaoldcmaaRows
import Derived.KernelRfl
set_option linter.unusedVariables false
noncomputable section
namespace Go.D
open Go.Xe Go.Sx
open Go.C36 (row j8 lis cLong cRlong longPre longRel rlongPre rlongRel)
def stp (w:Int)(P:Sx.Rows)(n v:Str)(a t:Int)(T:Tree):List Dat:=[.int w,.lst P,.str n,.str v,.int a,.int t,.int T.k,.str T.t,.str T.y,.lst (T.a.map Att.row),.str T.x,.lst (rows T.c)]
structure Ed where
 n:Str
 d:Bool
 v:Str
def Ed.row (e:Ed):List Dat:=[.str e.n,.bool e.d,.str e.v]
def sliceE :SV->SS->List (So×E)
 | .lst _ e _,_=>[(.l,e)]
 | .nils,_=>[(.l,.op .nil [])]
 | .sl c _ _ _ _,s=>match s.get c with
  |some (.rows e _ _ _)=>[(.l,e)]
  |_=>match lk s.fz c with
   |some r=>[(.l,r.1)]
   |none=>[]
 |_,_=>[]
def ghSl (t j:Nat):Fm->SS->List (So×E):=fun f s=>match lk f t with
 |some (.ptr b _ _ _)=>match s.get b with
  |some (.cells l _ _)=>sliceE (l.getD j .any) s
  |_=>[]
 |_=>[]
def ghL (t:Nat):Fm->SS->List (So×E):=fun f s=>sliceE ((lk f t).getD .any) s
def ixnInv :List Dat->List Dat->Prop
 | [.lst L,.int v],[.int k]=>0<=k/\k<=ln L/\ ∀l:List Int,L=l.map row->v∉l.take k.toNat
 |_,_=>False
def ixnMu:=slMu
set_option maxRecDepth 100000
open Go Go.Xe Go.Sx
open Go Go.Xe Go.Sx
open Go.C36 (row j8 lis cLong cRlong longPre longRel rlongPre rlongRel)
def vcBef0 (x0:Int)(x1:Sx.Rows)(x2 x3:Int)(x4:List UInt8)(x5:Int):Prop:=
 Nd (I64 (x0+1))<|Nd (bfInv [.lst x1,.int x2,.int x3,.str x4] [.int (x0+1),.int x5])<|Nd (bfMu [.lst x1,.int x2,.int x3,.str x4] [.int (x0+1),.int x5]<bfMu [.lst x1,.int x2,.int x3,.str x4] [.int x0,.int x5]) True
def vcBef :Prop:=
 ∀x0 x1 x2 x3 x4 x5 x6 x7,befPre [.lst x0,.int x1,.int x2,.str x3,.str x4,.lst x5,.str x6,.lst x7]->Nd (bfInv [.lst x0,.int x1,.int x2,.str x3] [.int 0,.int 0]) (∀x8 x9,bfInv [.lst x0,.int x1,.int x2,.str x3] [.int x8,.int x9]->((x8<x1->Nd (¬x8<0) (Nd (x8<ln x0)<|(cS x0 x8 2=([]:List UInt8)->Nd (¬x8<0) (Nd (x8<ln x0)<|(cI x0 x8 0=x2->((cS x0 x8 1=x3->Nd (I64 (x9+1)) (Nd (I64 (x8+1))<|Nd (bfInv [.lst x0,.int x1,.int x2,.str x3] [.int (x8+1),.int (x9+1)])<|Nd (bfMu [.lst x0,.int x1,.int x2,.str x3] [.int (x8+1),.int (x9+1)]<bfMu [.lst x0,.int x1,.int x2,.str x3] [.int x8,.int x9]) True))/\(¬cS x0 x8 1=x3->vcBef0 x8 x0 x1 x2 x3 x9)))/\(¬cI x0 x8 0=x2->vcBef0 x8 x0 x1 x2 x3 x9)))/\(¬cS x0 x8 2=([]:List UInt8)->vcBef0 x8 x0 x1 x2 x3 x9)))/\(¬x8<x1->Nd (befRel [.lst x0,.int x1,.int x2,.str x3,.str x4,.lst x5,.str x6,.lst x7] [.int x9]) True)))
def vcRmat0 (x0:Int)(x1 x2:Sx.Rows)(x3 x4:Int):Prop:=
 Nd (I64 (x0+1))<|Nd (rkInv [.lst x1,.lst x2,.int x3] [.int (x0+1),.int x0])<|Nd (rkMu [.lst x1,.lst x2,.int x3] [.int (x0+1),.int x0]<rkMu [.lst x1,.lst x2,.int x3] [.int x0,.int x4]) True
def vcRmat1 (x0:Int)(x1 x2:Sx.Rows)(x3 x4:Int):Prop:=
 Nd (I64 (x0+1))<|Nd (rkInv [.lst x1,.lst x2,.int x3] [.int (x0+1),.int x4])<|Nd (rkMu [.lst x1,.lst x2,.int x3] [.int (x0+1),.int x4]<rkMu [.lst x1,.lst x2,.int x3] [.int x0,.int x4]) True
def vcRmat :Prop:=
 ∀x0 x1,rmatPre [.lst x0,.lst x1]->Nd (rmInv [.lst x0,.lst x1] [.int 0,.lst []]) (∀x2 x3,rmInv [.lst x0,.lst x1] [.int x2,.lst x3]->((x2<ln x1->Nd (rkInv [.lst x0,.lst x1,.int x2] [.int 0,.int (-1)]) (∀x4 x5,rkInv [.lst x0,.lst x1,.int x2] [.int x4,.int x5]->((x4<ln x0->Nd (¬x4<0) (Nd (x4<ln x0)<|Nd (¬x2<0)<|Nd (x2<ln x1)<|(cS x0 x4 2=cS x1 x2 2->Nd (¬x4<0) (Nd (x4<ln x0)<|Nd (¬x2<0)<|Nd (x2<ln x1)<|(cI x0 x4 0=cI x1 x2 0->((cS x0 x4 1=cS x1 x2 1->Nd (¬x2<0) (Nd (x2<ln x1)<|(cS x1 x2 2=([]:List UInt8)->Nd (¬x2<0) (Nd (x2<ln x1)<|Nd (befPre [.lst x0,.int x4,.int (cI x1 x2 0),.str (cS x1 x2 1),.str (cS x1 x2 2),.lst (cL x1 x2 3),.str (cS x1 x2 4),.lst (cL x1 x2 5)])<|∀x6,befRel [.lst x0,.int x4,.int (cI x1 x2 0),.str (cS x1 x2 1),.str (cS x1 x2 2),.lst (cL x1 x2 3),.str (cS x1 x2 4),.lst (cL x1 x2 5)] [.int x6]->Nd (¬x2<0) (Nd (x2<ln x1)<|Nd (befPre [.lst x1,.int x2,.int (cI x1 x2 0),.str (cS x1 x2 1),.str (cS x1 x2 2),.lst (cL x1 x2 3),.str (cS x1 x2 4),.lst (cL x1 x2 5)])<|∀x7,befRel [.lst x1,.int x2,.int (cI x1 x2 0),.str (cS x1 x2 1),.str (cS x1 x2 2),.lst (cL x1 x2 3),.str (cS x1 x2 4),.lst (cL x1 x2 5)] [.int x7]->((x6=x7->vcRmat0 x4 x0 x1 x2 x5)/\(¬x6=x7->vcRmat1 x4 x0 x1 x2 x5)))))/\(¬cS x1 x2 2=([]:List UInt8)->vcRmat0 x4 x0 x1 x2 x5)))/\(¬cS x0 x4 1=cS x1 x2 1->vcRmat1 x4 x0 x1 x2 x5)))/\(¬cI x0 x4 0=cI x1 x2 0->vcRmat1 x4 x0 x1 x2 x5)))/\(¬cS x0 x4 2=cS x1 x2 2->vcRmat1 x4 x0 x1 x2 x5)))/\(¬x4<ln x0->Ni (ln x3) (Nd (ln x3+1<67108865)<|Nr (ln x3)<|Nd (I64 (x2+1))<|Ni (ln x3+1)<|Nr (ln x3+1)<|Nd (rmInv [.lst x0,.lst x1] [.int (x2+1),.lst (x3++Sx.chunk 1 1 [.int x5])])<|Nd (rmMu [.lst x0,.lst x1] [.int (x2+1),.lst (x3++Sx.chunk 1 1 [.int x5])]<rmMu [.lst x0,.lst x1] [.int x2,.lst x3]) True)))))/\(¬x2<ln x1->Ni (ln x3) (Nr (ln x3)<|Nd (rmatRel [.lst x0,.lst x1] [.lst x3]) True))))
theorem vcRmat_eq :(cvc Go.Proofs.Try.prog U0 cRmat (sxF Go.Proofs.Try.prog U0 annsC (B0 Go.Proofs.Try.prog U0 (stageC 1) (primsC Go.Proofs.Try.prog)) 400 9)).vc U0 (fun _=>True)=vcRmat:=by kernel_rfl
end Go.D
