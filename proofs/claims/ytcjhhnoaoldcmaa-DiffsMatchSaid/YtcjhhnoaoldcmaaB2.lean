/- The conditions of contracts, as the engine's printer has written them, and that the kernel comes to the same.
  Conditions: none. -/
import Derived.Test.YtcjhhnoaoldcmaaB1
import Derived.Test.YtcjhhnoaoldcmaaRows
import Derived.KernelRfl
set_option linter.unusedVariables false
set_option maxRecDepth 100000
namespace Go.C36
open Go Go.Xe Go.Sx
def vcLen :Prop:=
 ∀x0:Sx.Rows,
(lenPre [.lst x0])->
 Nd (¬((ln x0)<0)) (
 Ni (ln x0) (
 Nd ((ln x0)<1048577) (
 Nd (¬((ln x0)<0)) (
 Nd ((ln x0)<1048577) (
 Nd (I64 ((ln x0)+(-1))) (
 Nd (¬((ln (List.replicate ((ln x0)).toNat [(.int 0)]:Sx.Rows))<(ln x0))) (
 Nr (ln x0) (
 Ni (ln x0) (
 Nd (¬((ln (List.replicate ((ln x0)).toNat [(.int 0)]:Sx.Rows))<0)) (
 Nr (ln x0) (
 Ni (ln x0) (
 Nd (lensInv [.lst x0] [.lst (Sx.part (List.replicate ((ln x0)).toNat [(.int 0)]:Sx.Rows) 0 (ln x0)),.int ((ln x0)+(-1)),.lst (Sx.part (List.replicate ((ln x0)).toNat [(.int 0)]:Sx.Rows) 0 0)]) (
 ∀x1:Sx.Rows,
 ∀x2:Int,
 ∀x3:Sx.Rows,
(lensInv [.lst x0] [.lst x1,.int x2,.lst x3])->
(((x2 < 0)->
 Ni (ln x1) (
 Nr (ln x1) (
 Nd ((ln x0)=(ln x1)) (
 Nd ((ln x1)<67108865) (
 Nd (lenRel [.lst x0] [.lst x1]) True)))))/\(¬(x2<0)->
 Nd (seInv [.lst x3,.lst x0,.int x2] [.int 0,.int (ln x3)]) (
 ∀x4:Int,
 ∀x5:Int,
(seInv [.lst x3,.lst x0,.int x2] [.int x4,.int x5])->
(((x4 < x5)->
 Nd (I64 (x4+x5)) (
 Nd ((¬((x4+x5)<0))/\((x4+x5)<18446744073709551616)) (
 Nd (I64 (Sx.shrI .u64 (x4+x5) 1)) (
 Nd (¬((Sx.shrI .u64 (x4+x5) 1)<0)) (
 Nd ((Sx.shrI .u64 (x4+x5) 1)<(ln x3)) (
 Nd ((Sx.shrI .u64 (x4+x5) 1)<(ln x3)) (
 Nd (¬(x2<0)) (
 Nd (x2<(ln x0)) (
((((cI x0 x2 0)<(cI x3 (Sx.shrI .u64 (x4+x5) 1) 0))->
 Nd (I64 ((Sx.shrI .u64 (x4+x5) 1)+1)) (
 Nd (seInv [.lst x3,.lst x0,.int x2] [.int ((Sx.shrI .u64 (x4+x5) 1)+1),.int x5]) (
 Nd (seMu [.lst x3,.lst x0,.int x2] [.int ((Sx.shrI .u64 (x4+x5) 1)+1),.int x5]<seMu [.lst x3,.lst x0,.int x2] [.int x4,.int x5]) True)))/\(¬((cI x0 x2 0)<(cI x3 (Sx.shrI .u64 (x4+x5) 1) 0))->
 Nd (seInv [.lst x3,.lst x0,.int x2] [.int x4,.int (Sx.shrI .u64 (x4+x5) 1)]) (
 Nd (seMu [.lst x3,.lst x0,.int x2] [.int x4,.int (Sx.shrI .u64 (x4+x5) 1)]<seMu [.lst x3,.lst x0,.int x2] [.int x4,.int x5]) True))))))))))))/\(¬(x4<x5)->
(((x4=(ln x3)) ->
 Nd (I64 (x4+1)) (
 Nd (¬((x4+1)<0)) (
 Nd (¬((ln x0)<(x4+1))) (
 Ni (ln x0) (
 Nd (¬(x2<0)) (
 Nd (x2<(ln x0)) (
 Nd (¬(x4<0)) (
 Nd (x4<(x4+1)) (
 Nd (¬((ln x3)<x4)) (
 Nd (x4<(ln x0)) (
 Nd (I64 (x4+1)) (
 Nd (¬(x2<0)) (
 Nd (x2<(ln x1)) (
 Nd (¬((ln x1)<x2)) (
 Nd (x2<(ln x0)) (
 Nd (I64 (x2+(-1))) (
 Nd (¬((ln (Sx.over x1 x2 (Sx.chunk 1 1 [(.int (x4+1))])))<(ln x1))) (
 Nr (ln x0) (
 Ni (ln x0) (
 Nd (¬((ln (Sx.over x3 x4 (Sx.chunk 1 1 [(.int (cI x0 x2 0))])))<(x4+1))) (
 Nr (ln x0) (
 Ni (ln x0) (
 Nd (lensInv [.lst x0] [.lst (Sx.part (Sx.over x1 x2 (Sx.chunk 1 1 [(.int (x4+1))])) 0 (ln x1)),.int (x2+(-1)),.lst (Sx.part (Sx.over x3 x4 (Sx.chunk 1 1 [(.int (cI x0 x2 0))])) 0 (x4+1))]) (
 Nd (lensMu [.lst x0] [.lst (Sx.part (Sx.over x1 x2 (Sx.chunk 1 1 [(.int (x4+1))])) 0 (ln x1)),.int (x2+(-1)),.lst (Sx.part (Sx.over x3 x4 (Sx.chunk 1 1 [(.int (cI x0 x2 0))])) 0 (x4+1))]<lensMu [.lst x0] [.lst x1,.int x2,.lst x3]) True))))))))))))))))))))))))/\(¬(x4=(ln x3))->
 Nd (¬(x2<0)) (
 Nd (x2<(ln x0)) (
 Nd (¬(x4<0)) (
 Nd (x4<(ln x3)) (
 Nd (¬((ln x3)<x4)) (
 Nd (x4<(ln x0)) (
 Nd (I64 (x4+1)) (
 Nd (¬(x2<0)) (
 Nd (x2<(ln x1)) (
 Nd (¬((ln x1)<x2)) (
 Nd (x2<(ln x0)) (
 Nd (I64 (x2+(-1))) (
 Nd (¬((ln (Sx.over x1 x2 (Sx.chunk 1 1 [(.int (x4+1))])))<(ln x1))) (
 Nr (ln x0) (
 Ni (ln x0) (
 Nd (¬((ln (Sx.over x3 x4 (Sx.chunk 1 1 [(.int (cI x0 x2 0))])))<(ln x3))) (
 Nr (ln x0) (
 Ni (ln x0) (
 Nd (lensInv [.lst x0] [.lst (Sx.part (Sx.over x1 x2 (Sx.chunk 1 1 [(.int (x4+1))])) 0 (ln x1)),.int (x2+(-1)),.lst (Sx.part (Sx.over x3 x4 (Sx.chunk 1 1 [(.int (cI x0 x2 0))])) 0 (ln x3))]) (
 Nd (lensMu [.lst x0] [.lst (Sx.part (Sx.over x1 x2 (Sx.chunk 1 1 [(.int (x4+1))])) 0 (ln x1)),.int (x2+(-1)),.lst (Sx.part (Sx.over x3 x4 (Sx.chunk 1 1 [(.int (cI x0 x2 0))])) 0 (ln x3))]<lensMu [.lst x0] [.lst x1,.int x2,.lst x3]) True)))))))))))))))))))))))))))))))))))))))
theorem vcLen_eq :(cvc Go.Proofs.Try.prog U0 cLen (sxF Go.Proofs.Try.prog U0 annsS (E6 Go.Proofs.Try.prog U0 (stageS 0) (primsS Go.Proofs.Try.prog)) 400 52)).vc U0 (fun _=>True)=vcLen:=by kernel_rfl
def vcMax :Prop:=
 ∀x0:Sx.Rows,
(maxPre [.lst x0])->
((((ln x0) <1)->
 False)/\(¬((ln x0)<1)->
 Nd (0<(ln x0)) (
 Nd (mxInv [.lst x0] [.int 1,.int (cI x0 0 0)]) (
 ∀x1:Int,
 ∀x2:Int,
(mxInv [.lst x0] [.int x1,.int x2])->
(((x1 < (ln x0))->
 Nd (¬(x1<0)) (
 Nd (x1<(ln x0)) (
(((x2 < (cI x0 x1 0))->
 Nd (I64 (x1+1)) (
 Nd (mxInv [.lst x0] [.int (x1+1),.int (cI x0 x1 0)]) (
 Nd (mxMu [.lst x0] [.int (x1+1),.int (cI x0 x1 0)]<mxMu [.lst x0] [.int x1,.int x2]) True)))/\(¬(x2<(cI x0 x1 0))->
 Nd (I64 (x1+1)) (
 Nd (mxInv [.lst x0] [.int (x1+1),.int x2]) (
 Nd (mxMu [.lst x0] [.int (x1+1),.int x2]<mxMu [.lst x0] [.int x1,.int x2]) True)))))))/\(¬(x1<(ln x0))->
 Nd (maxRel [.lst x0] [.int x2]) True))))))
theorem vcMax_eq :(cvc Go.Proofs.Try.prog U0 cMax (sxF Go.Proofs.Try.prog U0 annsS (E6 Go.Proofs.Try.prog U0 (stageS 0) (primsS Go.Proofs.Try.prog)) 400 53)).vc U0 (fun _=>True)=vcMax:=by kernel_rfl
def vcLong0 (x0:Sx.Rows)(x1:Int)(x2:Int)(x3:Int)(x4:Sx.Rows)(x5:Sx.Rows):Prop:=
 Ni (ln x0) (
 Nd (((ln x0)+1)<67108865) (
(((x1 < ((ln x0)+1))->
 Nr (ln x0) (
 Nd (I64 (x2+(-1))) (
 Nd (I64 (x3+1)) (
 Ni ((ln x0)+1) (
 Nr ((ln x0)+1) (
 False))))))/\(¬(x1<((ln x0)+1))->
 Ni x1 (
 Nd (I64 (x2+(-1))) (
 Nd (I64 (x3+1)) (
 Nd (¬((ln (Sx.over x0 (ln x0) (Sx.chunk 1 1 [(.int x3)])))<((ln x0)+1))) (
 Nr x1 (
 Ni x1 (
 Nd (pickInv [.lst x4,.lst x5] [.int (x3+1),.int (x2+(-1)),.lst (Sx.part (Sx.over x0 (ln x0) (Sx.chunk 1 1 [(.int x3)])) 0 ((ln x0)+1))]) (
 Nd (pickMu [.lst x4,.lst x5] [.int (x3+1),.int (x2+(-1)),.lst (Sx.part (Sx.over x0 (ln x0) (Sx.chunk 1 1 [(.int x3)])) 0 ((ln x0)+1))]<pickMu [.lst x4,.lst x5] [.int x3,.int x2,.lst x0]) True)))))))))))
def vcLong1 (x0:Int)(x1:Sx.Rows)(x2:Int)(x3:Sx.Rows)(x4:Sx.Rows)(x5:Int):Prop:=
 Nd (I64 (x0+1)) (
 Ni (ln x1) (
 Nr (ln x1) (
 Nr x2 (
 Ni x2 (
 Nd (pickInv [.lst x3,.lst x4] [.int (x0+1),.int x5,.lst x1]) (
 Nd (pickMu [.lst x3,.lst x4] [.int (x0+1),.int x5,.lst x1]<pickMu [.lst x3,.lst x4] [.int x0,.int x5,.lst x1]) True))))))
def vcLong :Prop:=
 ∀x0:Sx.Rows,
(longPre [.lst x0])->
(((4096 < (ln x0))->
 Nd (longRel [.lst x0] [.lst [],.int 3]) True)/\(¬(4096<(ln x0))->
((((ln x0)=0) ->
 Nd (longRel [.lst x0] [.lst [],.int 0]) True)/\(¬((ln x0)=0)->
 Nd (lenPre [.lst x0]) (
 ∀x1:Sx.Rows,
(lenRel [.lst x0] [.lst x1])->
 Ni (ln x1) (
 Nr (ln x1) (
 Nd (maxPre [.lst x1]) (
 ∀x2:Int,
(maxRel [.lst x1] [.int x2])->
 Nd (¬(x2<0)) (
 Nd (x2<1048577) (
 Nd (¬((ln (List.replicate (x2).toNat [(.int 0)]:Sx.Rows))<0)) (
 Nr x2 (
 Ni x2 (
 Nd (pickInv [.lst x0,.lst x1] [.int 0,.int x2,.lst (Sx.part (List.replicate (x2).toNat [(.int 0)]:Sx.Rows) 0 0)]) (
 ∀x3:Int,
 ∀x4:Int,
 ∀x5:Sx.Rows,
(pickInv [.lst x0,.lst x1] [.int x3,.int x4,.lst x5])->
(((x3 < (ln x0))->
 Nd (¬(x3<0)) (
 Nd (x3<(ln x0)) (
(((x4=0) ->
 Nd (x2=(ln x5)) (
 Ni (ln x5) (
 Nr (ln x5) (
 Nd (longRel [.lst x0] [.lst x5,.int 0]) True))))/\(¬(x4=0)->
 Nd (¬(x3<0)) (
 Nd (x3<(ln x1)) (
 Nd (x3<(ln x1)) (
((((cI x1 x3 0)=x4)->
(((0 < (ln x5))->
 Nd (I64 ((ln x5)+(-1))) (
 Nd (¬(((ln x5)+(-1))<0)) (
 Nd (((ln x5)+(-1))<(ln x5)) (
 Nd (((ln x5)+(-1))<(ln x5)) (
 Nd (¬((cI x5 ((ln x5)+(-1)) 0)<0)) (
 Nd ((cI x5 ((ln x5)+(-1)) 0)<(ln x0)) (
((((cI x0 (cI x5 ((ln x5)+(-1)) 0) 0)<(cI x0 x3 0))->
(vcLong0 x5 x2 x4 x3 x0 x1))/\(¬((cI x0 (cI x5 ((ln x5)+(-1)) 0) 0)<(cI x0 x3 0))->
(vcLong1 x3 x5 x2 x0 x1 x4))))))))))/\(¬(0<(ln x5))->
(vcLong0 x5 x2 x4 x3 x0 x1))))/\(¬((cI x1 x3 0)=x4)->
(vcLong1 x3 x5 x2 x0 x1 x4)))))))))))/\(¬(x3<(ln x0))->
 Nd (x2=(ln x5)) (
 Ni (ln x5) (
 Nr (ln x5) (
 Nd (longRel [.lst x0] [.lst x5,.int 0]) True)))))))))))))))))))
theorem vcLong_eq :(cvc Go.Proofs.Try.prog U0 cLong (sxF Go.Proofs.Try.prog U0 annsS (E6 Go.Proofs.Try.prog U0 (stageS 1) (primsS Go.Proofs.Try.prog)) 400 31)).vc U0 (fun _=>True)=vcLong:=by kernel_rfl
def vcRlong0 (x0:Int)(x1:Sx.Rows)(x2:Sx.Rows)(x3:Sx.Rows)(x4:Int):Prop:=
 Nd (I64 (x0+1)) (
 Ni (ln x1) (
 Nr (ln x1) (
 Nd (rpInv [.lst x2,.lst x3,.int x4] [.int (x0+1),.lst x1]) (
 Nd (rpMu [.lst x2,.lst x3,.int x4] [.int (x0+1),.lst x1]<rpMu [.lst x2,.lst x3,.int x4] [.int x0,.lst x1]) True))))
def vcRlong1 (x0:Sx.Rows)(x1:Int)(x2:Int)(x3:Sx.Rows)(x4:Sx.Rows):Prop:=
((((ln x0) <x1)->
 Ni (ln x0) (
 Nd (((ln x0)+1)<67108865) (
 Nr (ln x0) (
 Nd (I64 (x2+1)) (
 Ni ((ln x0)+1) (
 Nr ((ln x0)+1) (
 Nd (rpInv [.lst x3,.lst x4,.int x1] [.int (x2+1),.lst (x0++(Sx.chunk 1 1 [(.int x2)]))]) (
 Nd (rpMu [.lst x3,.lst x4,.int x1] [.int (x2+1),.lst (x0++(Sx.chunk 1 1 [(.int x2)]))]<rpMu [.lst x3,.lst x4,.int x1] [.int x2,.lst x0]) True))))))))/\(¬((ln x0)<x1)->
(vcRlong0 x2 x0 x3 x4 x1)))
def vcRlong2 (x0:Int)(x1:Sx.Rows)(x2:Sx.Rows)(x3:Int):Prop:=
 Nd (I64 (x0+1)) (
 Ni (ln x1) (
 Nr (ln x1) (
 Nr (ln x2) (
 Ni (ln x2) (
 Nd (innInv [.lst x2,.int x3] [.int (x0+1),.lst x1]) (
 Nd (innMu [.lst x2,.int x3] [.int (x0+1),.lst x1]<innMu [.lst x2,.int x3] [.int x0,.lst x1]) True))))))
def vcRlong :Prop:=
 ∀x0:Sx.Rows,
(rlongPre [.lst x0])->
 Nd (¬((ln x0)<0)) (
 Ni (ln x0) (
 Nd ((ln x0)<1048577) (
 Nd (I64 ((ln x0)+(-1))) (
 Nd (¬((ln (List.replicate ((ln x0)).toNat [(.int 0)]:Sx.Rows))<(ln x0))) (
 Nr (ln x0) (
 Ni (ln x0) (
 Nd (outInv [.lst x0] [.int 0,.int ((ln x0)+(-1)),.lst (Sx.part (List.replicate ((ln x0)).toNat [(.int 0)]:Sx.Rows) 0 (ln x0))]) (
 ∀x1:Int,
 ∀x2:Int,
 ∀x3:Sx.Rows,
(outInv [.lst x0] [.int x1,.int x2,.lst x3])->
(((x2 < 0)->
 Nd (rpInv [.lst x0,.lst x3,.int x1] [.int 0,.lst []]) (
 ∀x4:Int,
 ∀x5:Sx.Rows,
(rpInv [.lst x0,.lst x3,.int x1] [.int x4,.lst x5])->
(((x4 < (ln x0))->
 Nd (¬(x4<0)) (
 Nd (x4<(ln x3)) (
 Nd (x4<(ln x3)) (
 Nd (I64 (x1-(ln x5))) (
((((cI x3 x4 0)=(x1-(ln x5)))->
((((ln x5)=0) ->
(vcRlong1 x5 x1 x4 x0 x3))/\(¬((ln x5)=0)->
 Nd (¬(x4<0)) (
 Nd (x4<(ln x0)) (
 Nd (I64 ((ln x5)+(-1))) (
 Nd (¬(((ln x5)+(-1))<0)) (
 Nd (((ln x5)+(-1))<(ln x5)) (
 Nd (((ln x5)+(-1))<(ln x5)) (
 Nd (¬((cI x5 ((ln x5)+(-1)) 0)<0)) (
 Nd ((cI x5 ((ln x5)+(-1)) 0)<(ln x0)) (
((((cI x0 (cI x5 ((ln x5)+(-1)) 0) 0)<(cI x0 x4 0))->
(vcRlong1 x5 x1 x4 x0 x3))/\(¬((cI x0 (cI x5 ((ln x5)+(-1)) 0) 0)<(cI x0 x4 0))->
(vcRlong0 x4 x5 x0 x3 x1))))))))))))))/\(¬((cI x3 x4 0)=(x1-(ln x5)))->
(vcRlong0 x4 x5 x0 x3 x1))))))))/\(¬(x4<(ln x0))->
 Ni (ln x5) (
 Nr (ln x5) (
 Nd (rlongRel [.lst x0] [.lst x5]) True))))))/\(¬(x2<0)->
 Nd (¬(x2<0)) (
 Nd (x2<(ln x3)) (
 Nd (¬((ln x3)<x2)) (
 Nd (x2<(ln x0)) (
 Nd (I64 (x2+1)) (
 Nd (¬((ln (Sx.over x3 x2 (Sx.chunk 1 1 [(.int 1)])))<(ln x3))) (
 Nr (ln x0) (
 Ni (ln x0) (
 Nd (innInv [.lst x0,.int x2] [.int (x2+1),.lst (Sx.part (Sx.over x3 x2 (Sx.chunk 1 1 [(.int 1)])) 0 (ln x3))]) (
 ∀x4:Int,
 ∀x5:Sx.Rows,
(innInv [.lst x0,.int x2] [.int x4,.lst x5])->
(((x4 < (ln x0))->
 Nd (¬(x4<0)) (
 Nd (x4<(ln x0)) (
 Nd (¬(x2<0)) (
 Nd (x2<(ln x0)) (
((((cI x0 x2 0)<(cI x0 x4 0))->
 Nd (¬(x4<0)) (
 Nd (x4<(ln x5)) (
 Nd (x4<(ln x5)) (
 Nd (I64 ((cI x5 x4 0)+1)) (
 Nd (¬(x2<0)) (
 Nd (x2<(ln x5)) (
 Nd (x2<(ln x5)) (
((((cI x5 x2 0)<((cI x5 x4 0)+1))->
 Nd (¬(x4<0)) (
 Nd (x4<(ln x5)) (
 Nd (x4<(ln x5)) (
 Nd (I64 ((cI x5 x4 0)+1)) (
 Nd (¬(x2<0)) (
 Nd (x2<(ln x5)) (
 Nd (¬((ln x5)<x2)) (
 Nd (x2<(ln x0)) (
 Nd (I64 (x4+1)) (
 Nd (¬((ln (Sx.over x5 x2 (Sx.chunk 1 1 [(.int ((cI x5 x4 0)+1))])))<(ln x5))) (
 Nr (ln x0) (
 Ni (ln x0) (
 Nd (innInv [.lst x0,.int x2] [.int (x4+1),.lst (Sx.part (Sx.over x5 x2 (Sx.chunk 1 1 [(.int ((cI x5 x4 0)+1))])) 0 (ln x5))]) (
 Nd (innMu [.lst x0,.int x2] [.int (x4+1),.lst (Sx.part (Sx.over x5 x2 (Sx.chunk 1 1 [(.int ((cI x5 x4 0)+1))])) 0 (ln x5))]<innMu [.lst x0,.int x2] [.int x4,.lst x5]) True))))))))))))))/\(¬((cI x5 x2 0)<((cI x5 x4 0)+1))->
(vcRlong2 x4 x5 x0 x2)))))))))))/\(¬((cI x0 x2 0)<(cI x0 x4 0))->
(vcRlong2 x4 x5 x0 x2))))))))/\(¬(x4<(ln x0))->
 Nd (¬(x2<0)) (
 Nd (x2<(ln x5)) (
 Nd (x2<(ln x5)) (
(((x1 < (cI x5 x2 0))->
 Nd (I64 (x2+(-1))) (
 Ni (ln x5) (
 Nr (ln x5) (
 Nr (ln x0) (
 Ni (ln x0) (
 Nd (outInv [.lst x0] [.int (cI x5 x2 0),.int (x2+(-1)),.lst x5]) (
 Nd (outMu [.lst x0] [.int (cI x5 x2 0),.int (x2+(-1)),.lst x5]<outMu [.lst x0] [.int x1,.int x2,.lst x3]) True)))))))/\(¬(x1<(cI x5 x2 0))->
 Nd (I64 (x2+(-1))) (
 Ni (ln x5) (
 Nr (ln x5) (
 Nr (ln x0) (
 Ni (ln x0) (
 Nd (outInv [.lst x0] [.int x1,.int (x2+(-1)),.lst x5]) (
 Nd (outMu [.lst x0] [.int x1,.int (x2+(-1)),.lst x5]<outMu [.lst x0] [.int x1,.int x2,.lst x3]) True))))))))))))))))))))))))))))))))
theorem vcRlong_eq :(cvc Go.Proofs.Try.prog U0 cRlong (sxF Go.Proofs.Try.prog U0 annsS (E6 Go.Proofs.Try.prog U0 (stageS 0) (primsS Go.Proofs.Try.prog)) 400 32)).vc U0 (fun _=>True)=vcRlong:=by kernel_rfl
end Go.C36
