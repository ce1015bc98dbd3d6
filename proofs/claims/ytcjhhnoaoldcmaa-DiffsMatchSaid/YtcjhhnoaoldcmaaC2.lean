/- The conditions of contracts, as the engine's printer has written them, and that the kernel comes to the same.
  Conditions: none. -/
import Derived.Test.YtcjhhnoaoldcmaaC1
import Derived.Test.YtcjhhnoaoldcmaaRows
import Derived.KernelRfl
set_option linter.unusedVariables false
set_option maxRecDepth 100000
namespace Go.D
open Go Go.Xe Go.Sx
open Go.C36 (row A2 lis cLong cRlong longPre longRel rlongPre rlongRel)
def vcMat :Prop:=
 ∀x0:Sx.Rows,
 ∀x1:Sx.Rows,
(matPre [.lst x0,.lst x1])->
 Nd (spInv [.lst x0] [.int 0,.lst [],.lst []]) (
 ∀x2:Int,
 ∀x3:Sx.Rows,
 ∀x4:Sx.Rows,
(spInv [.lst x0] [.int x2,.lst x3,.lst x4])->
(((x2 < (ln x0))->
 Nd (¬(x2<0)) (
 Nd (x2<(ln x0)) (
((((cS x0 x2 2)=([]:List UInt8))->
 Nd (I64 ((Sx.mgetR x3 [.i (cI x0 x2 0),.s (cS x0 x2 1),.s (cS x0 x2 2),.i 0] (.int 0)).toInt+1)) (
 Nd (¬((Sx.midxR x3 [.i (cI x0 x2 0),.s (cS x0 x2 1),.s (cS x0 x2 2),.i 0]:Int)<0)) (
 Nd ((Sx.midxR x3 [.i (cI x0 x2 0),.s (cS x0 x2 1),.s (cS x0 x2 2),.i 0]:Int)<(ln (Sx.mputR x3 [.i (cI x0 x2 0),.s (cS x0 x2 1),.s (cS x0 x2 2),.i 0] (Sx.mgetR x3 [.i (cI x0 x2 0),.s (cS x0 x2 1),.s (cS x0 x2 2),.i 0] (.int 0))))) (
 Nd (I64 (x2+1)) (
 Nd (spInv [.lst x0] [.int (x2+1),.lst (Sx.setAt (Sx.mputR x3 [.i (cI x0 x2 0),.s (cS x0 x2 1),.s (cS x0 x2 2),.i 0] (Sx.mgetR x3 [.i (cI x0 x2 0),.s (cS x0 x2 1),.s (cS x0 x2 2),.i 0] (.int 0))) (Sx.midxR x3 [.i (cI x0 x2 0),.s (cS x0 x2 1),.s (cS x0 x2 2),.i 0]:Int) 4 (.int ((Sx.mgetR x3 [.i (cI x0 x2 0),.s (cS x0 x2 1),.s (cS x0 x2 2),.i 0] (.int 0)).toInt+1))),.lst (Sx.mputR x4 [.i (cI x0 x2 0),.s (cS x0 x2 1),.s (cS x0 x2 2),.i (Sx.mgetR x3 [.i (cI x0 x2 0),.s (cS x0 x2 1),.s (cS x0 x2 2),.i 0] (.int 0)).toInt] (.int x2))]) (
 Nd (spMu [.lst x0] [.int (x2+1),.lst (Sx.setAt (Sx.mputR x3 [.i (cI x0 x2 0),.s (cS x0 x2 1),.s (cS x0 x2 2),.i 0] (Sx.mgetR x3 [.i (cI x0 x2 0),.s (cS x0 x2 1),.s (cS x0 x2 2),.i 0] (.int 0))) (Sx.midxR x3 [.i (cI x0 x2 0),.s (cS x0 x2 1),.s (cS x0 x2 2),.i 0]:Int) 4 (.int ((Sx.mgetR x3 [.i (cI x0 x2 0),.s (cS x0 x2 1),.s (cS x0 x2 2),.i 0] (.int 0)).toInt+1))),.lst (Sx.mputR x4 [.i (cI x0 x2 0),.s (cS x0 x2 1),.s (cS x0 x2 2),.i (Sx.mgetR x3 [.i (cI x0 x2 0),.s (cS x0 x2 1),.s (cS x0 x2 2),.i 0] (.int 0)).toInt] (.int x2))]<spMu [.lst x0] [.int x2,.lst x3,.lst x4]) True))))))/\(¬((cS x0 x2 2)=([]:List UInt8))->
 Nd (I64 (x2+1)) (
 Nd (spInv [.lst x0] [.int (x2+1),.lst x3,.lst (Sx.mputR x4 [.i (cI x0 x2 0),.s (cS x0 x2 1),.s (cS x0 x2 2),.i 0] (.int x2))]) (
 Nd (spMu [.lst x0] [.int (x2+1),.lst x3,.lst (Sx.mputR x4 [.i (cI x0 x2 0),.s (cS x0 x2 1),.s (cS x0 x2 2),.i 0] (.int x2))]<spMu [.lst x0] [.int x2,.lst x3,.lst x4]) True)))))))/\(¬(x2<(ln x0))->
 Nd (¬((ln x1)<0)) (
 Ni (ln x1) (
 Nd ((ln x1)<1048577) (
 Ni (ln x1) (
 Nd (soInv [.lst x1,.lst x4] [.lst (List.replicate ((ln x1)).toNat [(.int 0)]:Sx.Rows),.int 0,.lst []]) (
 ∀x5:Sx.Rows,
 ∀x6:Int,
 ∀x7:Sx.Rows,
(soInv [.lst x1,.lst x4] [.lst x5,.int x6,.lst x7])->
(((x6 < (ln x1))->
 Nd (¬(x6<0)) (
 Nd (x6<(ln x1)) (
((((cS x1 x6 2)=([]:List UInt8))->
 Nd (I64 ((Sx.mgetR x7 [.i (cI x1 x6 0),.s (cS x1 x6 1),.s (cS x1 x6 2),.i 0] (.int 0)).toInt+1)) (
 Nd (¬((Sx.midxR x7 [.i (cI x1 x6 0),.s (cS x1 x6 1),.s (cS x1 x6 2),.i 0]:Int)<0)) (
 Nd ((Sx.midxR x7 [.i (cI x1 x6 0),.s (cS x1 x6 1),.s (cS x1 x6 2),.i 0]:Int)<(ln (Sx.mputR x7 [.i (cI x1 x6 0),.s (cS x1 x6 1),.s (cS x1 x6 2),.i 0] (Sx.mgetR x7 [.i (cI x1 x6 0),.s (cS x1 x6 1),.s (cS x1 x6 2),.i 0] (.int 0))))) (
((((Sx.mhasR x4 [.i (cI x1 x6 0),.s (cS x1 x6 1),.s (cS x1 x6 2),.i (Sx.mgetR x7 [.i (cI x1 x6 0),.s (cS x1 x6 1),.s (cS x1 x6 2),.i 0] (.int 0)).toInt])=true)->
 Nd (¬(x6<0)) (
 Nd (x6<(ln x1)) (
 Nd (¬((ln x5)<x6)) (
 Nd (x6<(ln x1)) (
 Nd (I64 (x6+1)) (
 Ni (ln x1) (
 Nd (soInv [.lst x1,.lst x4] [.lst (Sx.over x5 x6 (Sx.chunk 1 1 [(.int (Sx.mgetR x4 [.i (cI x1 x6 0),.s (cS x1 x6 1),.s (cS x1 x6 2),.i (Sx.mgetR x7 [.i (cI x1 x6 0),.s (cS x1 x6 1),.s (cS x1 x6 2),.i 0] (.int 0)).toInt] (.int 0)).toInt)])),.int (x6+1),.lst (Sx.setAt (Sx.mputR x7 [.i (cI x1 x6 0),.s (cS x1 x6 1),.s (cS x1 x6 2),.i 0] (Sx.mgetR x7 [.i (cI x1 x6 0),.s (cS x1 x6 1),.s (cS x1 x6 2),.i 0] (.int 0))) (Sx.midxR x7 [.i (cI x1 x6 0),.s (cS x1 x6 1),.s (cS x1 x6 2),.i 0]:Int) 4 (.int ((Sx.mgetR x7 [.i (cI x1 x6 0),.s (cS x1 x6 1),.s (cS x1 x6 2),.i 0] (.int 0)).toInt+1)))]) (
 Nd (soMu [.lst x1,.lst x4] [.lst (Sx.over x5 x6 (Sx.chunk 1 1 [(.int (Sx.mgetR x4 [.i (cI x1 x6 0),.s (cS x1 x6 1),.s (cS x1 x6 2),.i (Sx.mgetR x7 [.i (cI x1 x6 0),.s (cS x1 x6 1),.s (cS x1 x6 2),.i 0] (.int 0)).toInt] (.int 0)).toInt)])),.int (x6+1),.lst (Sx.setAt (Sx.mputR x7 [.i (cI x1 x6 0),.s (cS x1 x6 1),.s (cS x1 x6 2),.i 0] (Sx.mgetR x7 [.i (cI x1 x6 0),.s (cS x1 x6 1),.s (cS x1 x6 2),.i 0] (.int 0))) (Sx.midxR x7 [.i (cI x1 x6 0),.s (cS x1 x6 1),.s (cS x1 x6 2),.i 0]:Int) 4 (.int ((Sx.mgetR x7 [.i (cI x1 x6 0),.s (cS x1 x6 1),.s (cS x1 x6 2),.i 0] (.int 0)).toInt+1)))]<soMu [.lst x1,.lst x4] [.lst x5,.int x6,.lst x7]) True))))))))/\(¬((Sx.mhasR x4 [.i (cI x1 x6 0),.s (cS x1 x6 1),.s (cS x1 x6 2),.i (Sx.mgetR x7 [.i (cI x1 x6 0),.s (cS x1 x6 1),.s (cS x1 x6 2),.i 0] (.int 0)).toInt])=true)->
 Nd (¬(x6<0)) (
 Nd (x6<(ln x1)) (
 Nd (¬((ln x5)<x6)) (
 Nd (x6<(ln x1)) (
 Nd (I64 (x6+1)) (
 Ni (ln x1) (
 Nd (soInv [.lst x1,.lst x4] [.lst (Sx.over x5 x6 (Sx.chunk 1 1 [(.int (-1))])),.int (x6+1),.lst (Sx.setAt (Sx.mputR x7 [.i (cI x1 x6 0),.s (cS x1 x6 1),.s (cS x1 x6 2),.i 0] (Sx.mgetR x7 [.i (cI x1 x6 0),.s (cS x1 x6 1),.s (cS x1 x6 2),.i 0] (.int 0))) (Sx.midxR x7 [.i (cI x1 x6 0),.s (cS x1 x6 1),.s (cS x1 x6 2),.i 0]:Int) 4 (.int ((Sx.mgetR x7 [.i (cI x1 x6 0),.s (cS x1 x6 1),.s (cS x1 x6 2),.i 0] (.int 0)).toInt+1)))]) (
 Nd (soMu [.lst x1,.lst x4] [.lst (Sx.over x5 x6 (Sx.chunk 1 1 [(.int (-1))])),.int (x6+1),.lst (Sx.setAt (Sx.mputR x7 [.i (cI x1 x6 0),.s (cS x1 x6 1),.s (cS x1 x6 2),.i 0] (Sx.mgetR x7 [.i (cI x1 x6 0),.s (cS x1 x6 1),.s (cS x1 x6 2),.i 0] (.int 0))) (Sx.midxR x7 [.i (cI x1 x6 0),.s (cS x1 x6 1),.s (cS x1 x6 2),.i 0]:Int) 4 (.int ((Sx.mgetR x7 [.i (cI x1 x6 0),.s (cS x1 x6 1),.s (cS x1 x6 2),.i 0] (.int 0)).toInt+1)))]<soMu [.lst x1,.lst x4] [.lst x5,.int x6,.lst x7]) True)))))))))))))/\(¬((cS x1 x6 2)=([]:List UInt8))->
((((Sx.mhasR x4 [.i (cI x1 x6 0),.s (cS x1 x6 1),.s (cS x1 x6 2),.i 0])=true)->
 Nd (¬(x6<0)) (
 Nd (x6<(ln x1)) (
 Nd (¬((ln x5)<x6)) (
 Nd (x6<(ln x1)) (
 Nd (I64 (x6+1)) (
 Ni (ln x1) (
 Nd (soInv [.lst x1,.lst x4] [.lst (Sx.over x5 x6 (Sx.chunk 1 1 [(.int (Sx.mgetR x4 [.i (cI x1 x6 0),.s (cS x1 x6 1),.s (cS x1 x6 2),.i 0] (.int 0)).toInt)])),.int (x6+1),.lst x7]) (
 Nd (soMu [.lst x1,.lst x4] [.lst (Sx.over x5 x6 (Sx.chunk 1 1 [(.int (Sx.mgetR x4 [.i (cI x1 x6 0),.s (cS x1 x6 1),.s (cS x1 x6 2),.i 0] (.int 0)).toInt)])),.int (x6+1),.lst x7]<soMu [.lst x1,.lst x4] [.lst x5,.int x6,.lst x7]) True))))))))/\(¬((Sx.mhasR x4 [.i (cI x1 x6 0),.s (cS x1 x6 1),.s (cS x1 x6 2),.i 0])=true)->
 Nd (¬(x6<0)) (
 Nd (x6<(ln x1)) (
 Nd (¬((ln x5)<x6)) (
 Nd (x6<(ln x1)) (
 Nd (I64 (x6+1)) (
 Ni (ln x1) (
 Nd (soInv [.lst x1,.lst x4] [.lst (Sx.over x5 x6 (Sx.chunk 1 1 [(.int (-1))])),.int (x6+1),.lst x7]) (
 Nd (soMu [.lst x1,.lst x4] [.lst (Sx.over x5 x6 (Sx.chunk 1 1 [(.int (-1))])),.int (x6+1),.lst x7]<soMu [.lst x1,.lst x4] [.lst x5,.int x6,.lst x7]) True))))))))))))))/\(¬(x6<(ln x1))->
 Nr (ln x1) (
 Nd (¬((ln x5)<(ln x1))) (
 Nd (matRel [.lst x0,.lst x1] [.lst (Sx.part x5 0 (ln x1))]) True))))))))))))
theorem vcMat_eq :(cvc Go.Proofs.Try.prog U0 cMat (sxF Go.Proofs.Try.prog U0 annsC (E6 Go.Proofs.Try.prog U0 (stageC 0) (primsC Go.Proofs.Try.prog)) 400 25)).vc U0 (fun _=>True)=vcMat:=by kernel_rfl
def vcBef0 (x0:Int)(x1:Sx.Rows)(x2:Int)(x3:Int)(x4:List UInt8)(x5:Int):Prop:=
 Nd (I64 (x0+1)) (
 Nd (bfInv [.lst x1,.int x2,.int x3,.str x4] [.int (x0+1),.int x5]) (
 Nd (bfMu [.lst x1,.int x2,.int x3,.str x4] [.int (x0+1),.int x5]<bfMu [.lst x1,.int x2,.int x3,.str x4] [.int x0,.int x5]) True))
def vcBef :Prop:=
 ∀x0:Sx.Rows,
 ∀x1:Int,
 ∀x2:Int,
 ∀x3:List UInt8,
 ∀x4:List UInt8,
 ∀x5:Sx.Rows,
 ∀x6:List UInt8,
 ∀x7:Sx.Rows,
(befPre [.lst x0,.int x1,.int x2,.str x3,.str x4,.lst x5,.str x6,.lst x7])->
 Nd (bfInv [.lst x0,.int x1,.int x2,.str x3] [.int 0,.int 0]) (
 ∀x8:Int,
 ∀x9:Int,
(bfInv [.lst x0,.int x1,.int x2,.str x3] [.int x8,.int x9])->
(((x8 < x1)->
 Nd (¬(x8<0)) (
 Nd (x8<(ln x0)) (
((((cS x0 x8 2)=([]:List UInt8))->
 Nd (¬(x8<0)) (
 Nd (x8<(ln x0)) (
((((cI x0 x8 0)=x2)->
((((cS x0 x8 1)=x3)->
 Nd (I64 (x9+1)) (
 Nd (I64 (x8+1)) (
 Nd (bfInv [.lst x0,.int x1,.int x2,.str x3] [.int (x8+1),.int (x9+1)]) (
 Nd (bfMu [.lst x0,.int x1,.int x2,.str x3] [.int (x8+1),.int (x9+1)]<bfMu [.lst x0,.int x1,.int x2,.str x3] [.int x8,.int x9]) True))))/\(¬((cS x0 x8 1)=x3)->
(vcBef0 x8 x0 x1 x2 x3 x9))))/\(¬((cI x0 x8 0)=x2)->
(vcBef0 x8 x0 x1 x2 x3 x9))))))/\(¬((cS x0 x8 2)=([]:List UInt8))->
(vcBef0 x8 x0 x1 x2 x3 x9))))))/\(¬(x8<x1)->
 Nd (befRel [.lst x0,.int x1,.int x2,.str x3,.str x4,.lst x5,.str x6,.lst x7] [.int x9]) True)))
theorem vcBef_eq :(cvc Go.Proofs.Try.prog U0 cBef (sxF Go.Proofs.Try.prog U0 annsC (E6 Go.Proofs.Try.prog U0 (stageC 0) (primsC Go.Proofs.Try.prog)) 400 30)).vc U0 (fun _=>True)=vcBef:=by kernel_rfl
def vcRmat0 (x0:Int)(x1:Sx.Rows)(x2:Sx.Rows)(x3:Int)(x4:Int):Prop:=
 Nd (I64 (x0+1)) (
 Nd (rkInv [.lst x1,.lst x2,.int x3] [.int (x0+1),.int x0]) (
 Nd (rkMu [.lst x1,.lst x2,.int x3] [.int (x0+1),.int x0]<rkMu [.lst x1,.lst x2,.int x3] [.int x0,.int x4]) True))
def vcRmat1 (x0:Int)(x1:Sx.Rows)(x2:Sx.Rows)(x3:Int)(x4:Int):Prop:=
 Nd (I64 (x0+1)) (
 Nd (rkInv [.lst x1,.lst x2,.int x3] [.int (x0+1),.int x4]) (
 Nd (rkMu [.lst x1,.lst x2,.int x3] [.int (x0+1),.int x4]<rkMu [.lst x1,.lst x2,.int x3] [.int x0,.int x4]) True))
def vcRmat :Prop:=
 ∀x0:Sx.Rows,
 ∀x1:Sx.Rows,
(rmatPre [.lst x0,.lst x1])->
 Nd (rmInv [.lst x0,.lst x1] [.int 0,.lst []]) (
 ∀x2:Int,
 ∀x3:Sx.Rows,
(rmInv [.lst x0,.lst x1] [.int x2,.lst x3])->
(((x2 < (ln x1))->
 Nd (rkInv [.lst x0,.lst x1,.int x2] [.int 0,.int (-1)]) (
 ∀x4:Int,
 ∀x5:Int,
(rkInv [.lst x0,.lst x1,.int x2] [.int x4,.int x5])->
(((x4 < (ln x0))->
 Nd (¬(x4<0)) (
 Nd (x4<(ln x0)) (
 Nd (¬(x2<0)) (
 Nd (x2<(ln x1)) (
((((cS x0 x4 2)=(cS x1 x2 2))->
 Nd (¬(x4<0)) (
 Nd (x4<(ln x0)) (
 Nd (¬(x2<0)) (
 Nd (x2<(ln x1)) (
((((cI x0 x4 0)=(cI x1 x2 0))->
((((cS x0 x4 1)=(cS x1 x2 1))->
 Nd (¬(x2<0)) (
 Nd (x2<(ln x1)) (
((((cS x1 x2 2)=([]:List UInt8))->
 Nd (¬(x2<0)) (
 Nd (x2<(ln x1)) (
 Nd (befPre [.lst x0,.int x4,.int (cI x1 x2 0),.str (cS x1 x2 1),.str (cS x1 x2 2),.lst (cL x1 x2 3),.str (cS x1 x2 4),.lst (cL x1 x2 5)]) (
 ∀x6:Int,
(befRel [.lst x0,.int x4,.int (cI x1 x2 0),.str (cS x1 x2 1),.str (cS x1 x2 2),.lst (cL x1 x2 3),.str (cS x1 x2 4),.lst (cL x1 x2 5)] [.int x6])->
 Nd (¬(x2<0)) (
 Nd (x2<(ln x1)) (
 Nd (befPre [.lst x1,.int x2,.int (cI x1 x2 0),.str (cS x1 x2 1),.str (cS x1 x2 2),.lst (cL x1 x2 3),.str (cS x1 x2 4),.lst (cL x1 x2 5)]) (
 ∀x7:Int,
(befRel [.lst x1,.int x2,.int (cI x1 x2 0),.str (cS x1 x2 1),.str (cS x1 x2 2),.lst (cL x1 x2 3),.str (cS x1 x2 4),.lst (cL x1 x2 5)] [.int x7])->
(((x6=x7) ->
(vcRmat0 x4 x0 x1 x2 x5))/\(¬(x6=x7)->
(vcRmat1 x4 x0 x1 x2 x5))))))))))/\(¬((cS x1 x2 2)=([]:List UInt8))->
(vcRmat0 x4 x0 x1 x2 x5))))))/\(¬((cS x0 x4 1)=(cS x1 x2 1))->
(vcRmat1 x4 x0 x1 x2 x5))))/\(¬((cI x0 x4 0)=(cI x1 x2 0))->
(vcRmat1 x4 x0 x1 x2 x5))))))))/\(¬((cS x0 x4 2)=(cS x1 x2 2))->
(vcRmat1 x4 x0 x1 x2 x5))))))))/\(¬(x4<(ln x0))->
 Ni (ln x3) (
 Nd (((ln x3)+1)<67108865) (
 Nr (ln x3) (
 Nd (I64 (x2+1)) (
 Ni ((ln x3)+1) (
 Nr ((ln x3)+1) (
 Nd (rmInv [.lst x0,.lst x1] [.int (x2+1),.lst (x3++(Sx.chunk 1 1 [(.int x5)]))]) (
 Nd (rmMu [.lst x0,.lst x1] [.int (x2+1),.lst (x3++(Sx.chunk 1 1 [(.int x5)]))]<rmMu [.lst x0,.lst x1] [.int x2,.lst x3]) True)))))))))))/\(¬(x2<(ln x1))->
 Ni (ln x3) (
 Nr (ln x3) (
 Nd (rmatRel [.lst x0,.lst x1] [.lst x3]) True)))))
theorem vcRmat_eq :(cvc Go.Proofs.Try.prog U0 cRmat (sxF Go.Proofs.Try.prog U0 annsC (E6 Go.Proofs.Try.prog U0 (stageC 1) (primsC Go.Proofs.Try.prog)) 400 9)).vc U0 (fun _=>True)=vcRmat:=by kernel_rfl
def vcStay :Prop:=
 ∀x0:Sx.Rows,
(stayPre [.lst x0])->
(((4096 < (ln x0))->
 Nd (stayRel [.lst x0] [.lst []]) True)/\(¬(4096<(ln x0))->
 Nd (syInv [.lst x0] [.int 0,.lst [],.lst [],.lst []]) (
 ∀x1:Int,
 ∀x2:Sx.Rows,
 ∀x3:Sx.Rows,
 ∀x4:Sx.Rows,
(syInv [.lst x0] [.int x1,.lst x2,.lst x3,.lst x4])->
(((x1 < (ln x0))->
 Nd (¬(x1<0)) (
 Nd (x1<(ln x0)) (
((((cI x0 x1 0)<(-1))->
 Nd (stayRel [.lst x0] [.lst []]) True)/\(¬((cI x0 x1 0)<(-1))->
((((Sx.mgetR x4 [.i (cI x0 x1 0)] (.bool false)).toBool=true)->
 Nd (stayRel [.lst x0] [.lst []]) True)/\(¬((Sx.mgetR x4 [.i (cI x0 x1 0)] (.bool false)).toBool=true)->
((((cI x0 x1 0)<0)->
 Nd (I64 (x1+1)) (
 Ni (ln x2) (
 Nr (ln x2) (
 Ni (ln x3) (
 Nr (ln x3) (
 Nd (syInv [.lst x0] [.int (x1+1),.lst x2,.lst x3,.lst x4]) (
 Nd (syMu [.lst x0] [.int (x1+1),.lst x2,.lst x3,.lst x4]<syMu [.lst x0] [.int x1,.lst x2,.lst x3,.lst x4]) True)))))))/\(¬((cI x0 x1 0)<0)->
 Ni (ln x2) (
 Nd (((ln x2)+1)<67108865) (
 Nr (ln x2) (
 Ni (ln x3) (
 Nd (((ln x3)+1)<67108865) (
 Nr (ln x3) (
 Nd (I64 (x1+1)) (
 Ni ((ln x2)+1) (
 Nr ((ln x2)+1) (
 Ni ((ln x3)+1) (
 Nr ((ln x3)+1) (
 Nd (syInv [.lst x0] [.int (x1+1),.lst (x2++(Sx.chunk 1 1 [(.int x1)])),.lst (x3++(Sx.chunk 1 1 [(.int (cI x0 x1 0))])),.lst (Sx.mputR x4 [.i (cI x0 x1 0)] (.bool true))]) (
 Nd (syMu [.lst x0] [.int (x1+1),.lst (x2++(Sx.chunk 1 1 [(.int x1)])),.lst (x3++(Sx.chunk 1 1 [(.int (cI x0 x1 0))])),.lst (Sx.mputR x4 [.i (cI x0 x1 0)] (.bool true))]<syMu [.lst x0] [.int x1,.lst x2,.lst x3,.lst x4]) True)))))))))))))))))))))/\(¬(x1<(ln x0))->
 Nd (¬((ln x0)<0)) (
 Ni (ln x0) (
 Nd ((ln x0)<1048577) (
 Ni (ln x3) (
 Nr (ln x3) (
 Nd (longPre [.lst x3]) (
 ∀x5:Sx.Rows,
 ∀x6:Int,
(longRel [.lst x3] [.lst x5,.int x6])->
 Nd (¬((ln (List.replicate ((ln x0)).toNat [(.bool false)]:Sx.Rows))<(ln x0))) (
 Nr (ln x0) (
 Ni (ln x0) (
 Nd (szInv [.lst x0,.lst x2,.lst x5] [.int 0,.lst (Sx.part (List.replicate ((ln x0)).toNat [(.bool false)]:Sx.Rows) 0 (ln x0))]) (
 ∀x7:Int,
 ∀x8:Sx.Rows,
(szInv [.lst x0,.lst x2,.lst x5] [.int x7,.lst x8])->
(((x7 < (ln x5))->
 Nd (¬(x7<0)) (
 Nd (x7<(ln x5)) (
 Nd (¬((cI x5 x7 0)<0)) (
 Nd ((cI x5 x7 0)<(ln x2)) (
 Nd ((cI x5 x7 0)<(ln x2)) (
 Nd (¬((cI x2 (cI x5 x7 0) 0)<0)) (
 Nd ((cI x2 (cI x5 x7 0) 0)<(ln x8)) (
 Nd (¬((ln x8)<(cI x2 (cI x5 x7 0) 0))) (
 Nd ((cI x2 (cI x5 x7 0) 0)<(ln x0)) (
 Nd (I64 (x7+1)) (
 Nd (¬((ln (Sx.over x8 (cI x2 (cI x5 x7 0) 0) (Sx.chunk 1 1 [(.bool true)])))<(ln x8))) (
 Nr (ln x0) (
 Ni (ln x0) (
 Nd (szInv [.lst x0,.lst x2,.lst x5] [.int (x7+1),.lst (Sx.part (Sx.over x8 (cI x2 (cI x5 x7 0) 0) (Sx.chunk 1 1 [(.bool true)])) 0 (ln x8))]) (
 Nd (szMu [.lst x0,.lst x2,.lst x5] [.int (x7+1),.lst (Sx.part (Sx.over x8 (cI x2 (cI x5 x7 0) 0) (Sx.chunk 1 1 [(.bool true)])) 0 (ln x8))]<szMu [.lst x0,.lst x2,.lst x5] [.int x7,.lst x8]) True)))))))))))))))/\(¬(x7<(ln x5))->
 Nd ((ln x0)=(ln x8)) (
 Ni (ln x8) (
 Nr (ln x8) (
 Nd (stayRel [.lst x0] [.lst x8]) True))))))))))))))))))))
theorem vcStay_eq :(cvc Go.Proofs.Try.prog U0 cStay (sxF Go.Proofs.Try.prog U0 annsC (E6 Go.Proofs.Try.prog U0 (stageC 0) (primsC Go.Proofs.Try.prog)) 400 10)).vc U0 (fun _=>True)=vcStay:=by kernel_rfl
def vcRstay :Prop:=
 ∀x0:Sx.Rows,
(rstayPre [.lst x0])->
 Nd (riInv [.lst x0] [.int 0,.lst [],.lst []]) (
 ∀x1:Int,
 ∀x2:Sx.Rows,
 ∀x3:Sx.Rows,
(riInv [.lst x0] [.int x1,.lst x2,.lst x3])->
(((x1 < (ln x0))->
 Nd (¬(x1<0)) (
 Nd (x1<(ln x0)) (
((((cI x0 x1 0)<0)->
 Nd (I64 (x1+1)) (
 Ni (ln x2) (
 Nr (ln x2) (
 Ni (ln x3) (
 Nr (ln x3) (
 Nd (riInv [.lst x0] [.int (x1+1),.lst x2,.lst x3]) (
 Nd (riMu [.lst x0] [.int (x1+1),.lst x2,.lst x3]<riMu [.lst x0] [.int x1,.lst x2,.lst x3]) True)))))))/\(¬((cI x0 x1 0)<0)->
 Ni (ln x2) (
 Nd (((ln x2)+1)<67108865) (
 Nr (ln x2) (
 Nd (¬(x1<0)) (
 Nd (x1<(ln x0)) (
 Ni (ln x3) (
 Nd (((ln x3)+1)<67108865) (
 Nr (ln x3) (
 Nd (I64 (x1+1)) (
 Ni ((ln x2)+1) (
 Nr ((ln x2)+1) (
 Ni ((ln x3)+1) (
 Nr ((ln x3)+1) (
 Nd (riInv [.lst x0] [.int (x1+1),.lst (x2++(Sx.chunk 1 1 [(.int x1)])),.lst (x3++(Sx.chunk 1 1 [(.int (cI x0 x1 0))]))]) (
 Nd (riMu [.lst x0] [.int (x1+1),.lst (x2++(Sx.chunk 1 1 [(.int x1)])),.lst (x3++(Sx.chunk 1 1 [(.int (cI x0 x1 0))]))]<riMu [.lst x0] [.int x1,.lst x2,.lst x3]) True)))))))))))))))))))/\(¬(x1<(ln x0))->
 Nd (¬((ln x0)<0)) (
 Ni (ln x0) (
 Nd ((ln x0)<1048577) (
 Ni (ln x3) (
 Nr (ln x3) (
 Nd (rlongPre [.lst x3]) (
 ∀x4:Sx.Rows,
(rlongRel [.lst x3] [.lst x4])->
 Nd (¬((ln (List.replicate ((ln x0)).toNat [(.int 0)]:Sx.Rows))<(ln x0))) (
 Nr (ln x0) (
 Ni (ln x0) (
 Nd (rzInv [.lst x0,.lst x2,.lst x4] [.int 0,.lst (Sx.part (List.replicate ((ln x0)).toNat [(.int 0)]:Sx.Rows) 0 (ln x0))]) (
 ∀x5:Int,
 ∀x6:Sx.Rows,
(rzInv [.lst x0,.lst x2,.lst x4] [.int x5,.lst x6])->
(((x5 < (ln x4))->
 Nd (¬(x5<0)) (
 Nd (x5<(ln x4)) (
 Nd (x5<(ln x4)) (
 Nd (¬((cI x4 x5 0)<0)) (
 Nd ((cI x4 x5 0)<(ln x2)) (
 Nd ((cI x4 x5 0)<(ln x2)) (
 Nd (¬((cI x2 (cI x4 x5 0) 0)<0)) (
 Nd ((cI x2 (cI x4 x5 0) 0)<(ln x6)) (
 Nd (¬((ln x6)<(cI x2 (cI x4 x5 0) 0))) (
 Nd ((cI x2 (cI x4 x5 0) 0)<(ln x0)) (
 Nd (I64 (x5+1)) (
 Nd (¬((ln (Sx.over x6 (cI x2 (cI x4 x5 0) 0) (Sx.chunk 1 1 [(.int 1)])))<(ln x6))) (
 Nr (ln x0) (
 Ni (ln x0) (
 Nd (rzInv [.lst x0,.lst x2,.lst x4] [.int (x5+1),.lst (Sx.part (Sx.over x6 (cI x2 (cI x4 x5 0) 0) (Sx.chunk 1 1 [(.int 1)])) 0 (ln x6))]) (
 Nd (rzMu [.lst x0,.lst x2,.lst x4] [.int (x5+1),.lst (Sx.part (Sx.over x6 (cI x2 (cI x4 x5 0) 0) (Sx.chunk 1 1 [(.int 1)])) 0 (ln x6))]<rzMu [.lst x0,.lst x2,.lst x4] [.int x5,.lst x6]) True))))))))))))))))/\(¬(x5<(ln x4))->
 Ni (ln x6) (
 Nr (ln x6) (
 Nd (rstayRel [.lst x0] [.lst x6]) True)))))))))))))))))
theorem vcRstay_eq :(cvc Go.Proofs.Try.prog U0 cRstay (sxF Go.Proofs.Try.prog U0 annsC (E6 Go.Proofs.Try.prog U0 (stageC 0) (primsC Go.Proofs.Try.prog)) 400 11)).vc U0 (fun _=>True)=vcRstay:=by kernel_rfl
def vcDmt0 (x0:Sx.Rows)(x2:Int)(x3:List UInt8)(x4:List UInt8)(x5:Sx.Rows)(x6:List UInt8)(x7:Sx.Rows)(x8:Int)(x9:List UInt8)(x10:List UInt8)(x11:Sx.Rows)(x12:List UInt8):Prop:=
 Nd (matPre [.lst [],.lst x0]) (
 ∀x1:Sx.Rows,
(matRel [.lst [],.lst x0] [.lst x1])->
 Nd (dmtRel [.int x2,.str x3,.str x4,.lst x5,.str x6,.lst x7,.int x8,.str x9,.str x10,.lst x11,.str x12,.lst x0] [.lst x1,.int 0]) True)
def vcDmt :Prop:=
 ∀x0:Int,
 ∀x1:List UInt8,
 ∀x2:List UInt8,
 ∀x3:Sx.Rows,
 ∀x4:List UInt8,
 ∀x5:Sx.Rows,
 ∀x6:Int,
 ∀x7:List UInt8,
 ∀x8:List UInt8,
 ∀x9:Sx.Rows,
 ∀x10:List UInt8,
 ∀x11:Sx.Rows,
(dmtPre [.int x0,.str x1,.str x2,.lst x3,.str x4,.lst x5,.int x6,.str x7,.str x8,.lst x9,.str x10,.lst x11])->
 Nd (chkPre [.int x0,.str x1,.str x2,.lst x3,.str x4,.lst x5]) (
 ∀x12:Int,
(chkRel [.int x0,.str x1,.str x2,.lst x3,.str x4,.lst x5] [.int x12])->
(((x12=0) ->
 Nd (chkPre [.int x6,.str x7,.str x8,.lst x9,.str x10,.lst x11]) (
 ∀x13:Int,
(chkRel [.int x6,.str x7,.str x8,.lst x9,.str x10,.lst x11] [.int x13])->
(((x13=0) ->
(((x0=x6) ->
(((x1=x7) ->
 Nd (matPre [.lst x5,.lst x11]) (
 ∀x14:Sx.Rows,
(matRel [.lst x5,.lst x11] [.lst x14])->
 Nd (dmtRel [.int x0,.str x1,.str x2,.lst x3,.str x4,.lst x5,.int x6,.str x7,.str x8,.lst x9,.str x10,.lst x11] [.lst x14,.int 0]) True))/\(¬(x1=x7)->
(vcDmt0 x11 x0 x1 x2 x3 x4 x5 x6 x7 x8 x9 x10))))/\(¬(x0=x6)->
(vcDmt0 x11 x0 x1 x2 x3 x4 x5 x6 x7 x8 x9 x10))))/\(¬(x13=0)->
 Nd (dmtRel [.int x0,.str x1,.str x2,.lst x3,.str x4,.lst x5,.int x6,.str x7,.str x8,.lst x9,.str x10,.lst x11] [.lst [],.int x13]) True))))/\(¬(x12=0)->
 Nd (¬(x12=0)) (
 Nd (dmtRel [.int x0,.str x1,.str x2,.lst x3,.str x4,.lst x5,.int x6,.str x7,.str x8,.lst x9,.str x10,.lst x11] [.lst [],.int x12]) True))))
theorem vcDmt_eq :(cvc Go.Proofs.Try.prog U0 cDmt (sxF Go.Proofs.Try.prog U0 annsC (E6 Go.Proofs.Try.prog U0 (stageC 2) (primsC Go.Proofs.Try.prog)) 400 7)).vc U0 (fun _=>True)=vcDmt:=by kernel_rfl
end Go.D
