/- The conditions of contracts, as the engine's printer has written them, and that the kernel comes to the same.
  Conditions: none. -/
import Derived.Test.YtcjhhnoaoldcmaaD1
import Derived.Test.YtcjhhnoaoldcmaaRows
import Derived.KernelRfl
set_option linter.unusedVariables false
set_option maxRecDepth 100000
namespace Go.D
open Go Go.Xe Go.Sx
open Go.C36 (row A2 lis cLong cRlong longPre longRel rlongPre rlongRel)
def vcCmp :Prop:=
 ∀x0:List UInt8,
 ∀x1:List UInt8,
(cmpPre [.str x0,.str x1])->
(((x0=x0) ->
(((x1=x1) ->
((((Op.bytesLess x0 x1)=true)->
 Nd (cmpRel [.str x0,.str x1] [.int (-1)]) True)/\(¬((Op.bytesLess x0 x1)=true)->
 Nd (¬((Op.bytesLess x0 x1)=true)) (
(((x0=x1) ->
 Nd (cmpRel [.str x0,.str x1] [.int 0]) True)/\(¬(x0=x1)->
 Nd (cmpRel [.str x0,.str x1] [.int 1]) True))))))/\(¬(x1=x1)->
 Nd (cmpRel [.str x0,.str x1] [.int 1]) True)))/\(¬(x0=x0)->
(((x1=x1) ->
 Nd (cmpRel [.str x0,.str x1] [.int (-1)]) True)/\(¬(x1=x1)->
 Nd (cmpRel [.str x0,.str x1] [.int 0]) True))))
theorem vcCmp_eq :(cvc Go.Proofs.Try.prog U0 cCmp (sxF Go.Proofs.Try.prog U0 annsD (E6 Go.Proofs.Try.prog U0 (stageD 0) (primsD Go.Proofs.Try.prog)) 400 99)).vc U0 (fun _=>True)=vcCmp:=by kernel_rfl
def vcAdf0 (x0:Int)(x1:Sx.Rows)(x2:Sx.Rows)(x3:Sx.Rows)(x4:Int):Prop:=
(((x0 < 0)->
 Nd (false=true) (
 Nd ((-1)<(ln x1)) (
 Ni (ln x2) (
 Nd (((ln x2)+1)<67108865) (
 Nr (ln x2) (
 Nd (I64 (x0+1)) (
 Ni ((ln x2)+1) (
 Nr ((ln x2)+1) (
 Nd (merInv [.lst x1,.lst x3] [.int x4,.int (x0+1),.lst (x2++(Sx.chunk 3 1 [(.str (cS x1 (-1) 0)),(.bool true),(.str [])]))]) (
 Nd (merMu [.lst x1,.lst x3] [.int x4,.int (x0+1),.lst (x2++(Sx.chunk 3 1 [(.str (cS x1 (-1) 0)),(.bool true),(.str [])]))]<merMu [.lst x1,.lst x3] [.int x4,.int x0,.lst x2]) True))))))))))/\(¬(x0<0)->
 Nd (¬(x0<0)) (
 Nd (x0<(ln x3)) (
 Nd (¬(x0<0)) (
 Nd (x0<(ln x3)) (
 Ni (ln x2) (
 Nd (((ln x2)+1)<67108865) (
 Nr (ln x2) (
 Nd (I64 (x0+1)) (
 Ni ((ln x2)+1) (
 Nr ((ln x2)+1) (
 Nd (merInv [.lst x1,.lst x3] [.int x4,.int (x0+1),.lst (x2++(Sx.chunk 3 1 [(.str (cS x3 x0 0)),(.bool false),(.str (cS x3 x0 1))]))]) (
 Nd (merMu [.lst x1,.lst x3] [.int x4,.int (x0+1),.lst (x2++(Sx.chunk 3 1 [(.str (cS x3 x0 0)),(.bool false),(.str (cS x3 x0 1))]))]<merMu [.lst x1,.lst x3] [.int x4,.int x0,.lst x2]) True)))))))))))))
def vcAdf1 (x0:Int)(x1:Sx.Rows)(x2:Sx.Rows)(x3:Sx.Rows)(x4:Int):Prop:=
 Nd (¬(x0<0)) (
 Nd (x0<(ln x1)) (
 Ni (ln x2) (
 Nd (((ln x2)+1)<67108865) (
 Nr (ln x2) (
 Nd (I64 (x0+1)) (
 Ni ((ln x2)+1) (
 Nr ((ln x2)+1) (
 Nd (merInv [.lst x1,.lst x3] [.int (x0+1),.int x4,.lst (x2++(Sx.chunk 3 1 [(.str (cS x1 x0 0)),(.bool true),(.str [])]))]) (
 Nd (merMu [.lst x1,.lst x3] [.int (x0+1),.int x4,.lst (x2++(Sx.chunk 3 1 [(.str (cS x1 x0 0)),(.bool true),(.str [])]))]<merMu [.lst x1,.lst x3] [.int x0,.int x4,.lst x2]) True)))))))))
def vcAdf2 (x0:Int)(x1:Sx.Rows)(x2:Sx.Rows)(x3:Int)(x4:Sx.Rows):Prop:=
 Nd (¬(x0<0)) (
 Nd (x0<(ln x1)) (
 Nd (¬(x0<0)) (
 Nd (x0<(ln x1)) (
 Ni (ln x2) (
 Nd (((ln x2)+1)<67108865) (
 Nr (ln x2) (
 Nd (I64 (x3+1)) (
 Nd (I64 (x0+1)) (
 Ni ((ln x2)+1) (
 Nr ((ln x2)+1) (
 Nd (merInv [.lst x4,.lst x1] [.int (x3+1),.int (x0+1),.lst (x2++(Sx.chunk 3 1 [(.str (cS x1 x0 0)),(.bool false),(.str (cS x1 x0 1))]))]) (
 Nd (merMu [.lst x4,.lst x1] [.int (x3+1),.int (x0+1),.lst (x2++(Sx.chunk 3 1 [(.str (cS x1 x0 0)),(.bool false),(.str (cS x1 x0 1))]))]<merMu [.lst x4,.lst x1] [.int x3,.int x0,.lst x2]) True))))))))))))
def vcAdf3 (x0:Int)(x1:Sx.Rows)(x2:Int)(x3:Sx.Rows)(x4:Sx.Rows):Prop:=
(((x0=(ln x1)) ->
(vcAdf0 x2 x1 x3 x4 x0))/\(¬(x0=(ln x1))->
(((x2=(ln x4)) ->
(vcAdf1 x0 x1 x3 x4 x2))/\(¬(x2=(ln x4))->
 Nd (¬(x0<0)) (
 Nd (x0<(ln x1)) (
 Nd (¬(x2<0)) (
 Nd (x2<(ln x4)) (
 Nd (cmpPre [.str (cS x1 x0 0),.str (cS x4 x2 0)]) (
 ∀x5:Int,
(cmpRel [.str (cS x1 x0 0),.str (cS x4 x2 0)] [.int x5])->
(((x5 < 0)->
(vcAdf1 x0 x1 x3 x4 x2))/\(¬(x5<0)->
(((0 < x5)->
(vcAdf0 x2 x1 x3 x4 x0))/\(¬(0<x5)->
(((x2 < 0)->
 Nd (¬(x0<0)) (
 Nd (x0<(ln x1)) (
 Ni (ln x3) (
 Nd (((ln x3)+1)<67108865) (
 Nr (ln x3) (
 Nd (I64 (x0+1)) (
 Nd (I64 (x2+1)) (
 Ni ((ln x3)+1) (
 Nr ((ln x3)+1) (
 Nd (merInv [.lst x1,.lst x4] [.int (x0+1),.int (x2+1),.lst (x3++(Sx.chunk 3 1 [(.str (cS x1 x0 0)),(.bool true),(.str [])]))]) (
 Nd (merMu [.lst x1,.lst x4] [.int (x0+1),.int (x2+1),.lst (x3++(Sx.chunk 3 1 [(.str (cS x1 x0 0)),(.bool true),(.str [])]))]<merMu [.lst x1,.lst x4] [.int x0,.int x2,.lst x3]) True)))))))))))/\(¬(x2<0)->
(((x0 < 0)->
(vcAdf2 x2 x4 x3 x0 x1))/\(¬(x0<0)->
 Nd (¬(x0<0)) (
 Nd (x0<(ln x1)) (
 Nd (¬(x2<0)) (
 Nd (x2<(ln x4)) (
((((cS x1 x0 1)=(cS x4 x2 1))->
 Nd (I64 (x0+1)) (
 Nd (I64 (x2+1)) (
 Ni (ln x3) (
 Nr (ln x3) (
 Nd (merInv [.lst x1,.lst x4] [.int (x0+1),.int (x2+1),.lst x3]) (
 Nd (merMu [.lst x1,.lst x4] [.int (x0+1),.int (x2+1),.lst x3]<merMu [.lst x1,.lst x4] [.int x0,.int x2,.lst x3]) True))))))/\(¬((cS x1 x0 1)=(cS x4 x2 1))->
(vcAdf2 x2 x4 x3 x0 x1))))))))))))))))))))))))
def vcAdf :Prop:=
 ∀x0:Sx.Rows,
 ∀x1:Sx.Rows,
(adfPre [.lst x0,.lst x1])->
 Nd (chkPre [.int 1,.str ([97]:List UInt8),.str [],.lst x0,.str [],.lst []]) (
 ∀x2:Int,
(chkRel [.int 1,.str ([97]:List UInt8),.str [],.lst x0,.str [],.lst []] [.int x2])->
(((x2=0) ->
 Nd (chkPre [.int 1,.str ([97]:List UInt8),.str [],.lst x1,.str [],.lst []]) (
 ∀x3:Int,
(chkRel [.int 1,.str ([97]:List UInt8),.str [],.lst x1,.str [],.lst []] [.int x3])->
(((x3=0) ->
 Nd (merInv [.lst x0,.lst x1] [.int 0,.int 0,.lst []]) (
 ∀x4:Int,
 ∀x5:Int,
 ∀x6:Sx.Rows,
(merInv [.lst x0,.lst x1] [.int x4,.int x5,.lst x6])->
(((x4 < (ln x0))->
(vcAdf3 x4 x0 x5 x6 x1))/\(¬(x4<(ln x0))->
(((x5 < (ln x1))->
(vcAdf3 x4 x0 x5 x6 x1))/\(¬(x5<(ln x1))->
 Nd (¬((ln x6)<0)) (
 Ni (ln x6) (
 Ni (ln x6) (
 Ni (ln x6) (
 Nr (ln x6) (
 Nd (adfRel [.lst x0,.lst x1] [.lst x6,.int 0]) True)))))))))))/\(¬(x3=0)->
 Nd (adfRel [.lst x0,.lst x1] [.lst [],.int x3]) True))))/\(¬(x2=0)->
 Nd (adfRel [.lst x0,.lst x1] [.lst [],.int x2]) True)))
theorem vcAdf_eq :(cvc Go.Proofs.Try.prog U0 cAdf (sxF Go.Proofs.Try.prog U0 annsD (E6 Go.Proofs.Try.prog U0 (stageD 1) (primsD Go.Proofs.Try.prog)) 400 69)).vc U0 (fun _=>True)=vcAdf:=by kernel_rfl
def vcPut :Prop:=
 ∀x0:Int,
 ∀x1:Sx.Rows,
 ∀x2:List UInt8,
 ∀x3:List UInt8,
 ∀x4:Int,
 ∀x5:Int,
 ∀x6:Int,
 ∀x7:List UInt8,
 ∀x8:List UInt8,
 ∀x9:Sx.Rows,
 ∀x10:List UInt8,
 ∀x11:Sx.Rows,
 ∀x12:Sx.Rows,
 ∀x13:Sx.Rows,
(putPre [.int x0,.lst x1,.str x2,.str x3,.int x4,.int x5,.int x6,.str x7,.str x8,.lst x9,.str x10,.lst x11,.lst x12,.lst x13])->
 ∀x14:Bool,
(((x14=true) ->
((ln x12)=0) ->
 Ni (ln x13) (
 Nd (((ln x13)+1)<67108865) (
 Nr (ln x13) (
 Ni ((ln x13)+1) (
 Nr ((ln x13)+1) (
 Nd (putRel [.int x0,.lst x1,.str x2,.str x3,.int x4,.int x5,.int x6,.str x7,.str x8,.lst x9,.str x10,.lst x11,.lst x12,.lst x13] [.lst (x13++(Sx.chunk 12 1 [(.int x0),(.lst []),(.str x2),(.str x3),(.int x4),(.int x5),(.int x6),(.str x7),(.str x8),(.lst x9),(.str x10),(.lst x11)]))]) True))))))/\(¬(x14=true)->
 Nd ((ln x12)<67108865) (
(((0 < (ln x12))->
 Nd (¬((ln x12)<0)) (
 Ni (ln x12) (
 Ni (ln x12) (
 Ni (ln x12) (
 Nr (ln x12) (
 Ni (ln x13) (
 Nd (((ln x13)+1)<67108865) (
 Nr (ln x13) (
 Ni ((ln x13)+1) (
 Nr ((ln x13)+1) (
 Nd (putRel [.int x0,.lst x1,.str x2,.str x3,.int x4,.int x5,.int x6,.str x7,.str x8,.lst x9,.str x10,.lst x11,.lst x12,.lst x13] [.lst (x13++(Sx.chunk 12 1 [(.int x0),(.lst ((Sx.chunk 1 0 [])++x12)),(.str x2),(.str x3),(.int x4),(.int x5),(.int x6),(.str x7),(.str x8),(.lst x9),(.str x10),(.lst x11)]))]) True)))))))))))/\(¬(0<(ln x12))->
 Nd (¬((ln x12)<0)) (
 Ni (ln x12) (
 Nd (¬(0<(ln x12))) (
 Nd (¬((ln (Sx.over (Sx.chunk 1 0 []) 0 x12))<(ln x12))) (
 Ni (ln x13) (
 Nd (((ln x13)+1)<67108865) (
 Nr (ln x13) (
 Ni ((ln x13)+1) (
 Nr ((ln x13)+1) (
 Nd (putRel [.int x0,.lst x1,.str x2,.str x3,.int x4,.int x5,.int x6,.str x7,.str x8,.lst x9,.str x10,.lst x11,.lst x12,.lst x13] [.lst (x13++(Sx.chunk 12 1 [(.int x0),(.lst (Sx.part (Sx.over (Sx.chunk 1 0 []) 0 x12) 0 (ln x12))),(.str x2),(.str x3),(.int x4),(.int x5),(.int x6),(.str x7),(.str x8),(.lst x9),(.str x10),(.lst x11)]))]) True))))))))))))))
theorem vcPut_eq :(cvc Go.Proofs.Try.prog U0 cPut (sxF Go.Proofs.Try.prog U0 annsD (E6 Go.Proofs.Try.prog U0 (stageD 0) (primsD Go.Proofs.Try.prog)) 400 46)).vc U0 (fun _=>True)=vcPut:=by kernel_rfl
def vcOwn0 (x0:Int)(x1:Sx.Rows)(x2:Sx.Rows)(x3:Sx.Rows)(x5:Sx.Rows):Prop:=
 Nd (¬(x0<0)) (
 Nd (x0<(ln x1)) (
((((cB x1 x0 1)=true)->
 Ni (ln x2) (
 Nr (ln x2) (
 Nd (putPre [.int 1,.lst [],.str (cS x1 x0 0),.str [],.int 0,.int 0,.int 0,.str [],.str [],.lst [],.str [],.lst [],.lst x3,.lst x2]) (
 ∀x4:Sx.Rows,
(putRel [.int 1,.lst [],.str (cS x1 x0 0),.str [],.int 0,.int 0,.int 0,.str [],.str [],.lst [],.str [],.lst [],.lst x3,.lst x2] [.lst x4])->
 Nd (I64 (x0+1)) (
 Ni (ln x4) (
 Nr (ln x4) (
 Nd (owInv [.lst x1,.lst x3,.lst x5] [.int (x0+1),.lst x4]) (
 Nd (owMu [.lst x1,.lst x3,.lst x5] [.int (x0+1),.lst x4]<owMu [.lst x1,.lst x3,.lst x5] [.int x0,.lst x2]) True))))))))/\(¬((cB x1 x0 1)=true)->
 Ni (ln x2) (
 Nr (ln x2) (
 Nd (putPre [.int 2,.lst [],.str (cS x1 x0 0),.str (cS x1 x0 2),.int 0,.int 0,.int 0,.str [],.str [],.lst [],.str [],.lst [],.lst x3,.lst x2]) (
 ∀x4:Sx.Rows,
(putRel [.int 2,.lst [],.str (cS x1 x0 0),.str (cS x1 x0 2),.int 0,.int 0,.int 0,.str [],.str [],.lst [],.str [],.lst [],.lst x3,.lst x2] [.lst x4])->
 Nd (I64 (x0+1)) (
 Ni (ln x4) (
 Nr (ln x4) (
 Nd (owInv [.lst x1,.lst x3,.lst x5] [.int (x0+1),.lst x4]) (
 Nd (owMu [.lst x1,.lst x3,.lst x5] [.int (x0+1),.lst x4]<owMu [.lst x1,.lst x3,.lst x5] [.int x0,.lst x2]) True)))))))))))
def vcOwn :Prop:=
 ∀x0:Int,
 ∀x1:List UInt8,
 ∀x2:List UInt8,
 ∀x3:Sx.Rows,
 ∀x4:List UInt8,
 ∀x5:Sx.Rows,
 ∀x6:Int,
 ∀x7:List UInt8,
 ∀x8:List UInt8,
 ∀x9:Sx.Rows,
 ∀x10:List UInt8,
 ∀x11:Sx.Rows,
 ∀x12:Sx.Rows,
 ∀x13:Sx.Rows,
(ownPre [.int x0,.str x1,.str x2,.lst x3,.str x4,.lst x5,.int x6,.str x7,.str x8,.lst x9,.str x10,.lst x11,.lst x12,.lst x13])->
(((x4=x10) ->
 Nd (adfPre [.lst x3,.lst x9]) (
 ∀x14:Sx.Rows,
 ∀x15:Int,
(adfRel [.lst x3,.lst x9] [.lst x14,.int x15])->
 Ni (ln x13) (
 Nr (ln x13) (
 Nd (owInv [.lst x14,.lst x12,.lst x13] [.int 0,.lst x13]) (
 ∀x16:Int,
 ∀x17:Sx.Rows,
(owInv [.lst x14,.lst x12,.lst x13] [.int x16,.lst x17])->
(((x16 < (ln x14))->
(vcOwn0 x16 x14 x17 x12 x13))/\(¬(x16<(ln x14))->
 Ni (ln x17) (
 Nr (ln x17) (
 Nd (ownRel [.int x0,.str x1,.str x2,.lst x3,.str x4,.lst x5,.int x6,.str x7,.str x8,.lst x9,.str x10,.lst x11,.lst x12,.lst x13] [.lst x17]) True)))))))))/\(¬(x4=x10)->
 Ni (ln x13) (
 Nr (ln x13) (
 Nd (putPre [.int 3,.lst [],.str [],.str x10,.int 0,.int 0,.int 0,.str [],.str [],.lst [],.str [],.lst [],.lst x12,.lst x13]) (
 ∀x14:Sx.Rows,
(putRel [.int 3,.lst [],.str [],.str x10,.int 0,.int 0,.int 0,.str [],.str [],.lst [],.str [],.lst [],.lst x12,.lst x13] [.lst x14])->
 Nd (adfPre [.lst x3,.lst x9]) (
 ∀x15:Sx.Rows,
 ∀x16:Int,
(adfRel [.lst x3,.lst x9] [.lst x15,.int x16])->
 Ni (ln x14) (
 Nr (ln x14) (
 Nd (owInv [.lst x15,.lst x12,.lst x14] [.int 0,.lst x14]) (
 ∀x17:Int,
 ∀x18:Sx.Rows,
(owInv [.lst x15,.lst x12,.lst x14] [.int x17,.lst x18])->
(((x17 < (ln x15))->
(vcOwn0 x17 x15 x18 x12 x14))/\(¬(x17<(ln x15))->
 Ni (ln x18) (
 Nr (ln x18) (
 Nd (ownRel [.int x0,.str x1,.str x2,.lst x3,.str x4,.lst x5,.int x6,.str x7,.str x8,.lst x9,.str x10,.lst x11,.lst x12,.lst x13] [.lst x18]) True)))))))))))))
theorem vcOwn_eq :(cvc Go.Proofs.Try.prog U0 cOwn (sxF Go.Proofs.Try.prog U0 annsD (E6 Go.Proofs.Try.prog U0 (stageD 2) (primsD Go.Proofs.Try.prog)) 400 44)).vc U0 (fun _=>True)=vcOwn:=by kernel_rfl
def vcNode0 (n:Nat)(x0:Sx.Rows)(x1:Sx.Rows)(x2:Sx.Rows)(x4:Int)(x5:Sx.Rows)(x6:Sx.Rows)(x7:Sx.Rows):Prop:=
 Ni (ln x0) (
 Nr (ln x0) (
 Nd (putPre [.int 4,.lst [],.str [],.str [],.int (ln x1),.int 0,.int 0,.str [],.str [],.lst [],.str [],.lst [],.lst x2,.lst x0]) (
 ∀x3:Sx.Rows,
(putRel [.int 4,.lst [],.str [],.str [],.int (ln x1),.int 0,.int 0,.str [],.str [],.lst [],.str [],.lst [],.lst x2,.lst x0] [.lst x3])->
 Nd (I64 (x4+1)) (
 Ni (ln x1) (
 Nr (ln x1) (
 Ni (ln x3) (
 Nr (ln x3) (
 Nd (frInv [.lst x5,.lst x6,.lst x2,.lst x7] [.int (x4+1),.lst x1,.lst x3]) (
 Nd (frMu [.lst x5,.lst x6,.lst x2,.lst x7] [.int (x4+1),.lst x1,.lst x3]<frMu [.lst x5,.lst x6,.lst x2,.lst x7] [.int x4,.lst x1,.lst x0]) True)))))))))
def vcNode1 (n:Nat)(x0:Int)(x1:Sx.Rows)(x2:Sx.Rows)(x3:Int):Prop:=
 Nd (I64 (x0+1)) (
 Nd (ixnInv [.lst x1,.int (cI x2 x3 0)] [.int (x0+1)]) (
 Nd (ixnMu [.lst x1,.int (cI x2 x3 0)] [.int (x0+1)]<ixnMu [.lst x1,.int (cI x2 x3 0)] [.int x0]) True))
def vcNode2 (n:Nat)(x0:Int)(x1:Sx.Rows)(x2:Sx.Rows)(x3:Sx.Rows)(x4:Sx.Rows)(x5:Sx.Rows)(x6:Sx.Rows)(x7:Sx.Rows)(x8:Sx.Rows)(x9:Sx.Rows):Prop:=
 Nd (I64 (x0+1)) (
 Ni (ln x1) (
 Nr (ln x1) (
 Ni (ln x2) (
 Nr (ln x2) (
 Nd (ndInv [.lst x3,.lst x4,.lst x5,.lst x6,.lst x7,.lst x8] [.int (x0+1),.lst x1,.lst x2]) (
 Nd (ndMu [.lst x3,.lst x4,.lst x5,.lst x6,.lst x7,.lst x8] [.int (x0+1),.lst x1,.lst x2]<ndMu [.lst x3,.lst x4,.lst x5,.lst x6,.lst x7,.lst x8] [.int x0,.lst x1,.lst x9]) True))))))
def vcNode3 (n:Nat)(x0:Int)(x1:Sx.Rows)(x2:Int)(x3:Sx.Rows)(x5:Sx.Rows)(x7:Sx.Rows)(x8:Sx.Rows)(x10:Sx.Rows)(x11:Sx.Rows)(x12:Sx.Rows)(x13:Sx.Rows):Prop:=
 Nd (I64 (x0+1)) (
 Ni (ln x1) (
 Nd (¬(x0<0)) (
 Nd (x0<(x0+1)) (
 Nd (¬((ln x1)<(x0+1))) (
 Nd (I64 (x2+1)) (
 Nd (ahInv [.lst x3] [.int (x2+1)]) (
 ∀x4:Int,
(ahInv [.lst x3] [.int x4])->
(((x4 < (ln x3))->
 Nd (¬(x4<0)) (
 Nd (x4<(ln x5)) (
((((cB x5 x4 0)=true)->
 Nd (¬(x4<0)) (
 Nd (x4<(ln x3)) (
 Nd (ixnInv [.lst ((Sx.part x1 0 x0)++(Sx.part x1 (x0+1) ((ln x1)-(x0+1)))),.int (cI x3 x4 0)] [.int 0]) (
 ∀x6:Int,
(ixnInv [.lst ((Sx.part x1 0 x0)++(Sx.part x1 (x0+1) ((ln x1)-(x0+1)))),.int (cI x3 x4 0)] [.int x6])->
(((x6 < (x0+((ln x1)-(x0+1))))->
 Nd (¬(x6<0)) (
 Nd (x6<(x0+((ln x1)-(x0+1)))) (
 Nd (x6<((ln (Sx.part x1 0 x0))+(ln (Sx.part x1 (x0+1) ((ln x1)-(x0+1)))))) (
((((cI x3 x4 0)=(cI ((Sx.part x1 0 x0)++(Sx.part x1 (x0+1) ((ln x1)-(x0+1)))) x6 0))->
 Nd (¬(x2<0)) (
 Nd (x2<(ln x3)) (
 Nd (¬(((ln (Sx.part x1 0 x0))+(ln (Sx.part x1 (x0+1) ((ln x1)-(x0+1)))))<(x0+((ln x1)-(x0+1))))) (
 Nd (¬(x6<0)) (
 Nd (¬((x0+((ln x1)-(x0+1)))<x6)) (
 Nd ((x0+((ln x1)-(x0+1)))<67108864) (
 Ni (ln x7) (
 Nr (ln x7) (
 Nd (putPre [.int 6,.lst [],.str [],.str [],.int x0,.int x6,.int 0,.str [],.str [],.lst [],.str [],.lst [],.lst x8,.lst x7]) (
 ∀x9:Sx.Rows,
(putRel [.int 6,.lst [],.str [],.str [],.int x0,.int x6,.int 0,.str [],.str [],.lst [],.str [],.lst [],.lst x8,.lst x7] [.lst x9])->
 Nd (I64 (x2+1)) (
 Nd (¬((((ln (Sx.part ((Sx.part x1 0 x0)++(Sx.part x1 (x0+1) ((ln x1)-(x0+1)))) 0 x6))+1)+(ln (Sx.part ((Sx.part x1 0 x0)++(Sx.part x1 (x0+1) ((ln x1)-(x0+1)))) x6 ((x0+((ln x1)-(x0+1)))-x6))))<((x0+((ln x1)-(x0+1)))+1))) (
 Ni (ln x9) (
 Nr (ln x9) (
 Nd (ndInv [.lst x10,.lst x3,.lst x5,.lst x8,.lst x11,.lst x12] [.int (x2+1),.lst (Sx.part (((Sx.part ((Sx.part x1 0 x0)++(Sx.part x1 (x0+1) ((ln x1)-(x0+1)))) 0 x6)++(Sx.chunk 1 1 [(.int (cI x3 x2 0))]))++(Sx.part ((Sx.part x1 0 x0)++(Sx.part x1 (x0+1) ((ln x1)-(x0+1)))) x6 ((x0+((ln x1)-(x0+1)))-x6))) 0 ((x0+((ln x1)-(x0+1)))+1)),.lst x9]) (
 Nd (ndMu [.lst x10,.lst x3,.lst x5,.lst x8,.lst x11,.lst x12] [.int (x2+1),.lst (Sx.part (((Sx.part ((Sx.part x1 0 x0)++(Sx.part x1 (x0+1) ((ln x1)-(x0+1)))) 0 x6)++(Sx.chunk 1 1 [(.int (cI x3 x2 0))]))++(Sx.part ((Sx.part x1 0 x0)++(Sx.part x1 (x0+1) ((ln x1)-(x0+1)))) x6 ((x0+((ln x1)-(x0+1)))-x6))) 0 ((x0+((ln x1)-(x0+1)))+1)),.lst x9]<ndMu [.lst x10,.lst x3,.lst x5,.lst x8,.lst x11,.lst x12] [.int x2,.lst x1,.lst x13]) True)))))))))))))))/\(¬((cI x3 x4 0)=(cI ((Sx.part x1 0 x0)++(Sx.part x1 (x0+1) ((ln x1)-(x0+1)))) x6 0))->
 Nd (I64 (x6+1)) (
 Nd (ixnInv [.lst ((Sx.part x1 0 x0)++(Sx.part x1 (x0+1) ((ln x1)-(x0+1)))),.int (cI x3 x4 0)] [.int (x6+1)]) (
 Nd (ixnMu [.lst ((Sx.part x1 0 x0)++(Sx.part x1 (x0+1) ((ln x1)-(x0+1)))),.int (cI x3 x4 0)] [.int (x6+1)]<ixnMu [.lst ((Sx.part x1 0 x0)++(Sx.part x1 (x0+1) ((ln x1)-(x0+1)))),.int (cI x3 x4 0)] [.int x6]) True))))))))/\(¬(x6<(x0+((ln x1)-(x0+1))))->
 Nd (¬(x2<0)) (
 Nd (x2<(ln x3)) (
 Nd (¬(((ln (Sx.part x1 0 x0))+(ln (Sx.part x1 (x0+1) ((ln x1)-(x0+1)))))<(x0+((ln x1)-(x0+1))))) (
 Nd (false=true) (
 Nd (¬((x0+((ln x1)-(x0+1)))<(-1))) (
 Nd ((x0+((ln x1)-(x0+1)))<67108864) (
 Ni (ln x7) (
 Nr (ln x7) (
 Nd (putPre [.int 6,.lst [],.str [],.str [],.int x0,.int (-1),.int 0,.str [],.str [],.lst [],.str [],.lst [],.lst x8,.lst x7]) (
 ∀x9:Sx.Rows,
(putRel [.int 6,.lst [],.str [],.str [],.int x0,.int (-1),.int 0,.str [],.str [],.lst [],.str [],.lst [],.lst x8,.lst x7] [.lst x9])->
 Nd (I64 (x2+1)) (
 Nd (¬((((ln (Sx.part ((Sx.part x1 0 x0)++(Sx.part x1 (x0+1) ((ln x1)-(x0+1)))) 0 (-1)))+1)+(ln (Sx.part ((Sx.part x1 0 x0)++(Sx.part x1 (x0+1) ((ln x1)-(x0+1)))) (-1) ((x0+((ln x1)-(x0+1)))+1))))<((x0+((ln x1)-(x0+1)))+1))) (
 Ni (ln x9) (
 Nr (ln x9) (
 Nd (ndInv [.lst x10,.lst x3,.lst x5,.lst x8,.lst x11,.lst x12] [.int (x2+1),.lst (Sx.part (((Sx.part ((Sx.part x1 0 x0)++(Sx.part x1 (x0+1) ((ln x1)-(x0+1)))) 0 (-1))++(Sx.chunk 1 1 [(.int (cI x3 x2 0))]))++(Sx.part ((Sx.part x1 0 x0)++(Sx.part x1 (x0+1) ((ln x1)-(x0+1)))) (-1) ((x0+((ln x1)-(x0+1)))+1))) 0 ((x0+((ln x1)-(x0+1)))+1)),.lst x9]) (
 Nd (ndMu [.lst x10,.lst x3,.lst x5,.lst x8,.lst x11,.lst x12] [.int (x2+1),.lst (Sx.part (((Sx.part ((Sx.part x1 0 x0)++(Sx.part x1 (x0+1) ((ln x1)-(x0+1)))) 0 (-1))++(Sx.chunk 1 1 [(.int (cI x3 x2 0))]))++(Sx.part ((Sx.part x1 0 x0)++(Sx.part x1 (x0+1) ((ln x1)-(x0+1)))) (-1) ((x0+((ln x1)-(x0+1)))+1))) 0 ((x0+((ln x1)-(x0+1)))+1)),.lst x9]<ndMu [.lst x10,.lst x3,.lst x5,.lst x8,.lst x11,.lst x12] [.int x2,.lst x1,.lst x13]) True))))))))))))))))))))/\(¬((cB x5 x4 0)=true)->
 Nd (I64 (x4+1)) (
 Nd (ahInv [.lst x3] [.int (x4+1)]) (
 Nd (ahMu [.lst x3] [.int (x4+1)]<ahMu [.lst x3] [.int x4]) True)))))))/\(¬(x4<(ln x3))->
 Nd (¬(x2<0)) (
 Nd (x2<(ln x3)) (
 Nd (¬(((ln (Sx.part x1 0 x0))+(ln (Sx.part x1 (x0+1) ((ln x1)-(x0+1)))))<(x0+((ln x1)-(x0+1))))) (
 Nd (¬((x0+((ln x1)-(x0+1)))<0)) (
 Ni (x0+((ln x1)-(x0+1))) (
 Nd ((x0+((ln x1)-(x0+1)))<67108864) (
 Ni (ln x7) (
 Nr (ln x7) (
 Nd (putPre [.int 6,.lst [],.str [],.str [],.int x0,.int (x0+((ln x1)-(x0+1))),.int 0,.str [],.str [],.lst [],.str [],.lst [],.lst x8,.lst x7]) (
 ∀x6:Sx.Rows,
(putRel [.int 6,.lst [],.str [],.str [],.int x0,.int (x0+((ln x1)-(x0+1))),.int 0,.str [],.str [],.lst [],.str [],.lst [],.lst x8,.lst x7] [.lst x6])->
 Nd (I64 (x2+1)) (
 Nd (¬((((ln (Sx.part ((Sx.part x1 0 x0)++(Sx.part x1 (x0+1) ((ln x1)-(x0+1)))) 0 (x0+((ln x1)-(x0+1)))))+1)+(ln (Sx.part ((Sx.part x1 0 x0)++(Sx.part x1 (x0+1) ((ln x1)-(x0+1)))) (x0+((ln x1)-(x0+1))) ((x0+((ln x1)-(x0+1)))-(x0+((ln x1)-(x0+1)))))))<((x0+((ln x1)-(x0+1)))+1))) (
 Ni (ln x6) (
 Nr (ln x6) (
 Nd (ndInv [.lst x10,.lst x3,.lst x5,.lst x8,.lst x11,.lst x12] [.int (x2+1),.lst (Sx.part (((Sx.part ((Sx.part x1 0 x0)++(Sx.part x1 (x0+1) ((ln x1)-(x0+1)))) 0 (x0+((ln x1)-(x0+1))))++(Sx.chunk 1 1 [(.int (cI x3 x2 0))]))++(Sx.part ((Sx.part x1 0 x0)++(Sx.part x1 (x0+1) ((ln x1)-(x0+1)))) (x0+((ln x1)-(x0+1))) ((x0+((ln x1)-(x0+1)))-(x0+((ln x1)-(x0+1)))))) 0 ((x0+((ln x1)-(x0+1)))+1)),.lst x6]) (
 Nd (ndMu [.lst x10,.lst x3,.lst x5,.lst x8,.lst x11,.lst x12] [.int (x2+1),.lst (Sx.part (((Sx.part ((Sx.part x1 0 x0)++(Sx.part x1 (x0+1) ((ln x1)-(x0+1)))) 0 (x0+((ln x1)-(x0+1))))++(Sx.chunk 1 1 [(.int (cI x3 x2 0))]))++(Sx.part ((Sx.part x1 0 x0)++(Sx.part x1 (x0+1) ((ln x1)-(x0+1)))) (x0+((ln x1)-(x0+1))) ((x0+((ln x1)-(x0+1)))-(x0+((ln x1)-(x0+1)))))) 0 ((x0+((ln x1)-(x0+1)))+1)),.lst x6]<ndMu [.lst x10,.lst x3,.lst x5,.lst x8,.lst x11,.lst x12] [.int x2,.lst x1,.lst x13]) True)))))))))))))))))))))))
def vcNode4 (n:Nat)(x0:Sx.Rows)(x1:Int)(x2:Sx.Rows)(x4:Sx.Rows)(x6:Sx.Rows)(x7:Sx.Rows)(x9:Sx.Rows)(x10:Sx.Rows)(x11:Sx.Rows)(x12:Sx.Rows):Prop:=
 Ni (ln x0) (
 Nd (false=true) (
 Nd (¬((ln x0)<0)) (
 Nr (ln x0) (
 Nd (I64 (x1+1)) (
 Nd (ahInv [.lst x2] [.int (x1+1)]) (
 ∀x3:Int,
(ahInv [.lst x2] [.int x3])->
(((x3 < (ln x2))->
 Nd (¬(x3<0)) (
 Nd (x3<(ln x4)) (
((((cB x4 x3 0)=true)->
 Nd (¬(x3<0)) (
 Nd (x3<(ln x2)) (
 Nd (ixnInv [.lst ((Sx.part x0 0 (-1))++x0),.int (cI x2 x3 0)] [.int 0]) (
 ∀x5:Int,
(ixnInv [.lst ((Sx.part x0 0 (-1))++x0),.int (cI x2 x3 0)] [.int x5])->
(((x5 < ((ln x0)+(-1)))->
 Nd (¬(x5<0)) (
 Nd (x5<((ln x0)+(-1))) (
 Nd (x5<((ln (Sx.part x0 0 (-1)))+(ln x0))) (
((((cI x2 x3 0)=(cI ((Sx.part x0 0 (-1))++x0) x5 0))->
 Nd (¬(x1<0)) (
 Nd (x1<(ln x2)) (
 Nd (¬(((ln (Sx.part x0 0 (-1)))+(ln x0))<((ln x0)+(-1)))) (
 Nd (¬(x5<0)) (
 Nd (¬(((ln x0)+(-1))<x5)) (
 Nd (((ln x0)+(-1))<67108864) (
 Ni (ln x6) (
 Nr (ln x6) (
 Nd (putPre [.int 6,.lst [],.str [],.str [],.int (-1),.int x5,.int 0,.str [],.str [],.lst [],.str [],.lst [],.lst x7,.lst x6]) (
 ∀x8:Sx.Rows,
(putRel [.int 6,.lst [],.str [],.str [],.int (-1),.int x5,.int 0,.str [],.str [],.lst [],.str [],.lst [],.lst x7,.lst x6] [.lst x8])->
 Nd (I64 (x1+1)) (
 Nd (¬((((ln (Sx.part ((Sx.part x0 0 (-1))++x0) 0 x5))+1)+(ln (Sx.part ((Sx.part x0 0 (-1))++x0) x5 (((ln x0)+(-1))-x5))))<(ln x0))) (
 Ni (ln x8) (
 Nr (ln x8) (
 Nd (ndInv [.lst x9,.lst x2,.lst x4,.lst x7,.lst x10,.lst x11] [.int (x1+1),.lst (Sx.part (((Sx.part ((Sx.part x0 0 (-1))++x0) 0 x5)++(Sx.chunk 1 1 [(.int (cI x2 x1 0))]))++(Sx.part ((Sx.part x0 0 (-1))++x0) x5 (((ln x0)+(-1))-x5))) 0 (ln x0)),.lst x8]) (
 Nd (ndMu [.lst x9,.lst x2,.lst x4,.lst x7,.lst x10,.lst x11] [.int (x1+1),.lst (Sx.part (((Sx.part ((Sx.part x0 0 (-1))++x0) 0 x5)++(Sx.chunk 1 1 [(.int (cI x2 x1 0))]))++(Sx.part ((Sx.part x0 0 (-1))++x0) x5 (((ln x0)+(-1))-x5))) 0 (ln x0)),.lst x8]<ndMu [.lst x9,.lst x2,.lst x4,.lst x7,.lst x10,.lst x11] [.int x1,.lst x0,.lst x12]) True)))))))))))))))/\(¬((cI x2 x3 0)=(cI ((Sx.part x0 0 (-1))++x0) x5 0))->
 Nd (I64 (x5+1)) (
 Nd (ixnInv [.lst ((Sx.part x0 0 (-1))++x0),.int (cI x2 x3 0)] [.int (x5+1)]) (
 Nd (ixnMu [.lst ((Sx.part x0 0 (-1))++x0),.int (cI x2 x3 0)] [.int (x5+1)]<ixnMu [.lst ((Sx.part x0 0 (-1))++x0),.int (cI x2 x3 0)] [.int x5]) True))))))))/\(¬(x5<((ln x0)+(-1)))->
 Nd (¬(x1<0)) (
 Nd (x1<(ln x2)) (
 Nd (¬(((ln (Sx.part x0 0 (-1)))+(ln x0))<((ln x0)+(-1)))) (
 Nd (false=true) (
 Nd (¬(((ln x0)+(-1))<(-1))) (
 Nd (((ln x0)+(-1))<67108864) (
 Ni (ln x6) (
 Nr (ln x6) (
 Nd (putPre [.int 6,.lst [],.str [],.str [],.int (-1),.int (-1),.int 0,.str [],.str [],.lst [],.str [],.lst [],.lst x7,.lst x6]) (
 ∀x8:Sx.Rows,
(putRel [.int 6,.lst [],.str [],.str [],.int (-1),.int (-1),.int 0,.str [],.str [],.lst [],.str [],.lst [],.lst x7,.lst x6] [.lst x8])->
 Nd (I64 (x1+1)) (
 Nd (¬((((ln (Sx.part ((Sx.part x0 0 (-1))++x0) 0 (-1)))+1)+(ln (Sx.part ((Sx.part x0 0 (-1))++x0) (-1) (ln x0))))<(ln x0))) (
 Ni (ln x8) (
 Nr (ln x8) (
 Nd (ndInv [.lst x9,.lst x2,.lst x4,.lst x7,.lst x10,.lst x11] [.int (x1+1),.lst (Sx.part (((Sx.part ((Sx.part x0 0 (-1))++x0) 0 (-1))++(Sx.chunk 1 1 [(.int (cI x2 x1 0))]))++(Sx.part ((Sx.part x0 0 (-1))++x0) (-1) (ln x0))) 0 (ln x0)),.lst x8]) (
 Nd (ndMu [.lst x9,.lst x2,.lst x4,.lst x7,.lst x10,.lst x11] [.int (x1+1),.lst (Sx.part (((Sx.part ((Sx.part x0 0 (-1))++x0) 0 (-1))++(Sx.chunk 1 1 [(.int (cI x2 x1 0))]))++(Sx.part ((Sx.part x0 0 (-1))++x0) (-1) (ln x0))) 0 (ln x0)),.lst x8]<ndMu [.lst x9,.lst x2,.lst x4,.lst x7,.lst x10,.lst x11] [.int x1,.lst x0,.lst x12]) True))))))))))))))))))))/\(¬((cB x4 x3 0)=true)->
 Nd (I64 (x3+1)) (
 Nd (ahInv [.lst x2] [.int (x3+1)]) (
 Nd (ahMu [.lst x2] [.int (x3+1)]<ahMu [.lst x2] [.int x3]) True)))))))/\(¬(x3<(ln x2))->
 Nd (¬(x1<0)) (
 Nd (x1<(ln x2)) (
 Nd (¬(((ln (Sx.part x0 0 (-1)))+(ln x0))<((ln x0)+(-1)))) (
 Nd (¬(((ln x0)+(-1))<0)) (
 Ni ((ln x0)+(-1)) (
 Nd (((ln x0)+(-1))<67108864) (
 Ni (ln x6) (
 Nr (ln x6) (
 Nd (putPre [.int 6,.lst [],.str [],.str [],.int (-1),.int ((ln x0)+(-1)),.int 0,.str [],.str [],.lst [],.str [],.lst [],.lst x7,.lst x6]) (
 ∀x5:Sx.Rows,
(putRel [.int 6,.lst [],.str [],.str [],.int (-1),.int ((ln x0)+(-1)),.int 0,.str [],.str [],.lst [],.str [],.lst [],.lst x7,.lst x6] [.lst x5])->
 Nd (I64 (x1+1)) (
 Nd (¬((((ln (Sx.part ((Sx.part x0 0 (-1))++x0) 0 ((ln x0)+(-1))))+1)+(ln (Sx.part ((Sx.part x0 0 (-1))++x0) ((ln x0)+(-1)) (((ln x0)+(-1))-((ln x0)+(-1))))))<(ln x0))) (
 Ni (ln x5) (
 Nr (ln x5) (
 Nd (ndInv [.lst x9,.lst x2,.lst x4,.lst x7,.lst x10,.lst x11] [.int (x1+1),.lst (Sx.part (((Sx.part ((Sx.part x0 0 (-1))++x0) 0 ((ln x0)+(-1)))++(Sx.chunk 1 1 [(.int (cI x2 x1 0))]))++(Sx.part ((Sx.part x0 0 (-1))++x0) ((ln x0)+(-1)) (((ln x0)+(-1))-((ln x0)+(-1))))) 0 (ln x0)),.lst x5]) (
 Nd (ndMu [.lst x9,.lst x2,.lst x4,.lst x7,.lst x10,.lst x11] [.int (x1+1),.lst (Sx.part (((Sx.part ((Sx.part x0 0 (-1))++x0) 0 ((ln x0)+(-1)))++(Sx.chunk 1 1 [(.int (cI x2 x1 0))]))++(Sx.part ((Sx.part x0 0 (-1))++x0) ((ln x0)+(-1)) (((ln x0)+(-1))-((ln x0)+(-1))))) 0 (ln x0)),.lst x5]<ndMu [.lst x9,.lst x2,.lst x4,.lst x7,.lst x10,.lst x11] [.int x1,.lst x0,.lst x12]) True))))))))))))))))))))))
def vcNode (n:Nat):Prop:=
 ∀x0:Int,
 ∀x1:List UInt8,
 ∀x2:List UInt8,
 ∀x3:Sx.Rows,
 ∀x4:List UInt8,
 ∀x5:Sx.Rows,
 ∀x6:Int,
 ∀x7:List UInt8,
 ∀x8:List UInt8,
 ∀x9:Sx.Rows,
 ∀x10:List UInt8,
 ∀x11:Sx.Rows,
 ∀x12:Sx.Rows,
 ∀x13:Sx.Rows,
((nodePre [.int x0,.str x1,.str x2,.lst x3,.str x4,.lst x5,.int x6,.str x7,.str x8,.lst x9,.str x10,.lst x11,.lst x12,.lst x13])/\nodeMu [.int x0,.str x1,.str x2,.lst x3,.str x4,.lst x5,.int x6,.str x7,.str x8,.lst x9,.str x10,.lst x11,.lst x12,.lst x13]<n+1)->
 Ni (ln x13) (
 Nr (ln x13) (
 Nd (ownPre [.int x0,.str x1,.str x2,.lst x3,.str x4,.lst x5,.int x6,.str x7,.str x8,.lst x9,.str x10,.lst x11,.lst x12,.lst x13]) (
 ∀x14:Sx.Rows,
(ownRel [.int x0,.str x1,.str x2,.lst x3,.str x4,.lst x5,.int x6,.str x7,.str x8,.lst x9,.str x10,.lst x11,.lst x12,.lst x13] [.lst x14])->
 Nd (matPre [.lst x5,.lst x11]) (
 ∀x15:Sx.Rows,
(matRel [.lst x5,.lst x11] [.lst x15])->
 Nd (stayPre [.lst x15]) (
 ∀x16:Sx.Rows,
(stayRel [.lst x15] [.lst x16])->
 Ni (ln x14) (
 Nr (ln x14) (
 Nd (frInv [.lst x5,.lst x15,.lst x12,.lst x14] [.int 0,.lst [],.lst x14]) (
 ∀x17:Int,
 ∀x18:Sx.Rows,
 ∀x19:Sx.Rows,
(frInv [.lst x5,.lst x15,.lst x12,.lst x14] [.int x17,.lst x18,.lst x19])->
(((x17 < (ln x5))->
 Nd (ixnInv [.lst x15,.int x17] [.int 0]) (
 ∀x20:Int,
(ixnInv [.lst x15,.int x17] [.int x20])->
(((x20 < (ln x15))->
 Nd (¬(x20<0)) (
 Nd (x20<(ln x15)) (
(((x17=(cI x15 x20 0))->
(((x20 < 0)->
(vcNode0 n x19 x18 x12 x17 x5 x15 x14))/\(¬(x20<0)->
 Ni (ln x18) (
 Nd (((ln x18)+1)<67108865) (
 Nr (ln x18) (
 Nd (I64 (x17+1)) (
 Ni ((ln x18)+1) (
 Nr ((ln x18)+1) (
 Ni (ln x19) (
 Nr (ln x19) (
 Nd (frInv [.lst x5,.lst x15,.lst x12,.lst x14] [.int (x17+1),.lst (x18++(Sx.chunk 1 1 [(.int x17)])),.lst x19]) (
 Nd (frMu [.lst x5,.lst x15,.lst x12,.lst x14] [.int (x17+1),.lst (x18++(Sx.chunk 1 1 [(.int x17)])),.lst x19]<frMu [.lst x5,.lst x15,.lst x12,.lst x14] [.int x17,.lst x18,.lst x19]) True))))))))))))/\(¬(x17=(cI x15 x20 0))->
 Nd (I64 (x20+1)) (
 Nd (ixnInv [.lst x15,.int x17] [.int (x20+1)]) (
 Nd (ixnMu [.lst x15,.int x17] [.int (x20+1)]<ixnMu [.lst x15,.int x17] [.int x20]) True)))))))/\(¬(x20<(ln x15))->
(vcNode0 n x19 x18 x12 x17 x5 x15 x14)))))/\(¬(x17<(ln x5))->
 Ni (ln x18) (
 Nr (ln x18) (
 Ni (ln x19) (
 Nr (ln x19) (
 Nd (ndInv [.lst x11,.lst x15,.lst x16,.lst x12,.lst x18,.lst x19] [.int 0,.lst x18,.lst x19]) (
 ∀x20:Int,
 ∀x21:Sx.Rows,
 ∀x22:Sx.Rows,
(ndInv [.lst x11,.lst x15,.lst x16,.lst x12,.lst x18,.lst x19] [.int x20,.lst x21,.lst x22])->
(((x20 < (ln x11))->
 Nd (¬(x20<0)) (
 Nd (x20<(ln x11)) (
 Nd (¬(x20<0)) (
 Nd (x20<(ln x15)) (
((((cI x15 x20 0)<0)->
 Nd (I64 (x20+1)) (
 Nd (ahInv [.lst x15] [.int (x20+1)]) (
 ∀x23:Int,
(ahInv [.lst x15] [.int x23])->
(((x23 < (ln x15))->
 Nd (¬(x23<0)) (
 Nd (x23<(ln x16)) (
((((cB x16 x23 0)=true)->
 Nd (¬(x23<0)) (
 Nd (x23<(ln x15)) (
 Nd (ixnInv [.lst x21,.int (cI x15 x23 0)] [.int 0]) (
 ∀x24:Int,
(ixnInv [.lst x21,.int (cI x15 x23 0)] [.int x24])->
(((x24 < (ln x21))->
 Nd (¬(x24<0)) (
 Nd (x24<(ln x21)) (
 Nd (x24<(ln x21)) (
((((cI x15 x23 0)=(cI x21 x24 0))->
 Nd (I64 ((-1)-x20)) (
 Ni (ln x21) (
 Nd (¬(x24<0)) (
 Nd (¬((ln x21)<x24)) (
 Nd ((ln x21)<67108864) (
 Nd (chkPre [.int (cI x11 x20 0),.str (cS x11 x20 1),.str (cS x11 x20 2),.lst (cL x11 x20 3),.str (cS x11 x20 4),.lst (cL x11 x20 5)]) (
 ∀x25:Int,
(chkRel [.int (cI x11 x20 0),.str (cS x11 x20 1),.str (cS x11 x20 2),.lst (cL x11 x20 3),.str (cS x11 x20 4),.lst (cL x11 x20 5)] [.int x25])->
(((x25=0) ->
 Nd (cpdPre [.int (cI x11 x20 0),.str (cS x11 x20 1),.str (cS x11 x20 2),.lst (cL x11 x20 3),.str (cS x11 x20 4),.lst (cL x11 x20 5),.bool true]) (
 ∀x26:Int,
 ∀x27:List UInt8,
 ∀x28:List UInt8,
 ∀x29:Sx.Rows,
 ∀x30:List UInt8,
 ∀x31:Sx.Rows,
(cpdRel [.int (cI x11 x20 0),.str (cS x11 x20 1),.str (cS x11 x20 2),.lst (cL x11 x20 3),.str (cS x11 x20 4),.lst (cL x11 x20 5),.bool true] [.int x26,.str x27,.str x28,.lst x29,.str x30,.lst x31])->
 Ni (ln x22) (
 Nr (ln x22) (
 Nd (putPre [.int 5,.lst [],.str [],.str [],.int 0,.int x24,.int x26,.str x27,.str x28,.lst x29,.str x30,.lst x31,.lst x12,.lst x22]) (
 ∀x32:Sx.Rows,
(putRel [.int 5,.lst [],.str [],.str [],.int 0,.int x24,.int x26,.str x27,.str x28,.lst x29,.str x30,.lst x31,.lst x12,.lst x22] [.lst x32])->
 Nd (I64 (x20+1)) (
 Nd (¬((((ln (Sx.part x21 0 x24))+1)+(ln (Sx.part x21 x24 ((ln x21)-x24))))<((ln x21)+1))) (
 Ni (ln x32) (
 Nr (ln x32) (
 Nd (ndInv [.lst x11,.lst x15,.lst x16,.lst x12,.lst x18,.lst x19] [.int (x20+1),.lst (Sx.part (((Sx.part x21 0 x24)++(Sx.chunk 1 1 [(.int ((-1)-x20))]))++(Sx.part x21 x24 ((ln x21)-x24))) 0 ((ln x21)+1)),.lst x32]) (
 Nd (ndMu [.lst x11,.lst x15,.lst x16,.lst x12,.lst x18,.lst x19] [.int (x20+1),.lst (Sx.part (((Sx.part x21 0 x24)++(Sx.chunk 1 1 [(.int ((-1)-x20))]))++(Sx.part x21 x24 ((ln x21)-x24))) 0 ((ln x21)+1)),.lst x32]<ndMu [.lst x11,.lst x15,.lst x16,.lst x12,.lst x18,.lst x19] [.int x20,.lst x21,.lst x22]) True))))))))))/\(¬(x25=0)->
 Ni (ln x22) (
 Nr (ln x22) (
 Nd (putPre [.int 5,.lst [],.str [],.str [],.int 0,.int x24,.int 0,.str [],.str [],.lst [],.str [],.lst [],.lst x12,.lst x22]) (
 ∀x26:Sx.Rows,
(putRel [.int 5,.lst [],.str [],.str [],.int 0,.int x24,.int 0,.str [],.str [],.lst [],.str [],.lst [],.lst x12,.lst x22] [.lst x26])->
 Nd (I64 (x20+1)) (
 Nd (¬((((ln (Sx.part x21 0 x24))+1)+(ln (Sx.part x21 x24 ((ln x21)-x24))))<((ln x21)+1))) (
 Ni (ln x26) (
 Nr (ln x26) (
 Nd (ndInv [.lst x11,.lst x15,.lst x16,.lst x12,.lst x18,.lst x19] [.int (x20+1),.lst (Sx.part (((Sx.part x21 0 x24)++(Sx.chunk 1 1 [(.int ((-1)-x20))]))++(Sx.part x21 x24 ((ln x21)-x24))) 0 ((ln x21)+1)),.lst x26]) (
 Nd (ndMu [.lst x11,.lst x15,.lst x16,.lst x12,.lst x18,.lst x19] [.int (x20+1),.lst (Sx.part (((Sx.part x21 0 x24)++(Sx.chunk 1 1 [(.int ((-1)-x20))]))++(Sx.part x21 x24 ((ln x21)-x24))) 0 ((ln x21)+1)),.lst x26]<ndMu [.lst x11,.lst x15,.lst x16,.lst x12,.lst x18,.lst x19] [.int x20,.lst x21,.lst x22]) True)))))))))))))))))/\(¬((cI x15 x23 0)=(cI x21 x24 0))->
(vcNode1 n x24 x21 x15 x23)))))))/\(¬(x24<(ln x21))->
 Nd (I64 ((-1)-x20)) (
 Ni (ln x21) (
 Nd (false=true) (
 Nd (¬((ln x21)<(-1))) (
 Nd ((ln x21)<67108864) (
 Nd (chkPre [.int (cI x11 x20 0),.str (cS x11 x20 1),.str (cS x11 x20 2),.lst (cL x11 x20 3),.str (cS x11 x20 4),.lst (cL x11 x20 5)]) (
 ∀x25:Int,
(chkRel [.int (cI x11 x20 0),.str (cS x11 x20 1),.str (cS x11 x20 2),.lst (cL x11 x20 3),.str (cS x11 x20 4),.lst (cL x11 x20 5)] [.int x25])->
(((x25=0) ->
 Nd (cpdPre [.int (cI x11 x20 0),.str (cS x11 x20 1),.str (cS x11 x20 2),.lst (cL x11 x20 3),.str (cS x11 x20 4),.lst (cL x11 x20 5),.bool true]) (
 ∀x26:Int,
 ∀x27:List UInt8,
 ∀x28:List UInt8,
 ∀x29:Sx.Rows,
 ∀x30:List UInt8,
 ∀x31:Sx.Rows,
(cpdRel [.int (cI x11 x20 0),.str (cS x11 x20 1),.str (cS x11 x20 2),.lst (cL x11 x20 3),.str (cS x11 x20 4),.lst (cL x11 x20 5),.bool true] [.int x26,.str x27,.str x28,.lst x29,.str x30,.lst x31])->
 Ni (ln x22) (
 Nr (ln x22) (
 Nd (putPre [.int 5,.lst [],.str [],.str [],.int 0,.int (-1),.int x26,.str x27,.str x28,.lst x29,.str x30,.lst x31,.lst x12,.lst x22]) (
 ∀x32:Sx.Rows,
(putRel [.int 5,.lst [],.str [],.str [],.int 0,.int (-1),.int x26,.str x27,.str x28,.lst x29,.str x30,.lst x31,.lst x12,.lst x22] [.lst x32])->
 Nd (I64 (x20+1)) (
 Nd (¬((((ln (Sx.part x21 0 (-1)))+1)+(ln (Sx.part x21 (-1) ((ln x21)+1))))<((ln x21)+1))) (
 Ni (ln x32) (
 Nr (ln x32) (
 Nd (ndInv [.lst x11,.lst x15,.lst x16,.lst x12,.lst x18,.lst x19] [.int (x20+1),.lst (Sx.part (((Sx.part x21 0 (-1))++(Sx.chunk 1 1 [(.int ((-1)-x20))]))++(Sx.part x21 (-1) ((ln x21)+1))) 0 ((ln x21)+1)),.lst x32]) (
 Nd (ndMu [.lst x11,.lst x15,.lst x16,.lst x12,.lst x18,.lst x19] [.int (x20+1),.lst (Sx.part (((Sx.part x21 0 (-1))++(Sx.chunk 1 1 [(.int ((-1)-x20))]))++(Sx.part x21 (-1) ((ln x21)+1))) 0 ((ln x21)+1)),.lst x32]<ndMu [.lst x11,.lst x15,.lst x16,.lst x12,.lst x18,.lst x19] [.int x20,.lst x21,.lst x22]) True))))))))))/\(¬(x25=0)->
 Ni (ln x22) (
 Nr (ln x22) (
 Nd (putPre [.int 5,.lst [],.str [],.str [],.int 0,.int (-1),.int 0,.str [],.str [],.lst [],.str [],.lst [],.lst x12,.lst x22]) (
 ∀x26:Sx.Rows,
(putRel [.int 5,.lst [],.str [],.str [],.int 0,.int (-1),.int 0,.str [],.str [],.lst [],.str [],.lst [],.lst x12,.lst x22] [.lst x26])->
 Nd (I64 (x20+1)) (
 Nd (¬((((ln (Sx.part x21 0 (-1)))+1)+(ln (Sx.part x21 (-1) ((ln x21)+1))))<((ln x21)+1))) (
 Ni (ln x26) (
 Nr (ln x26) (
 Nd (ndInv [.lst x11,.lst x15,.lst x16,.lst x12,.lst x18,.lst x19] [.int (x20+1),.lst (Sx.part (((Sx.part x21 0 (-1))++(Sx.chunk 1 1 [(.int ((-1)-x20))]))++(Sx.part x21 (-1) ((ln x21)+1))) 0 ((ln x21)+1)),.lst x26]) (
 Nd (ndMu [.lst x11,.lst x15,.lst x16,.lst x12,.lst x18,.lst x19] [.int (x20+1),.lst (Sx.part (((Sx.part x21 0 (-1))++(Sx.chunk 1 1 [(.int ((-1)-x20))]))++(Sx.part x21 (-1) ((ln x21)+1))) 0 ((ln x21)+1)),.lst x26]<ndMu [.lst x11,.lst x15,.lst x16,.lst x12,.lst x18,.lst x19] [.int x20,.lst x21,.lst x22]) True))))))))))))))))))))))/\(¬((cB x16 x23 0)=true)->
 Nd (I64 (x23+1)) (
 Nd (ahInv [.lst x15] [.int (x23+1)]) (
 Nd (ahMu [.lst x15] [.int (x23+1)]<ahMu [.lst x15] [.int x23]) True)))))))/\(¬(x23<(ln x15))->
 Nd (I64 ((-1)-x20)) (
 Ni (ln x21) (
 Nd (¬((ln x21)<0)) (
 Ni (ln x21) (
 Nd ((ln x21)<67108864) (
 Nr (ln x21) (
 Nd (chkPre [.int (cI x11 x20 0),.str (cS x11 x20 1),.str (cS x11 x20 2),.lst (cL x11 x20 3),.str (cS x11 x20 4),.lst (cL x11 x20 5)]) (
 ∀x24:Int,
(chkRel [.int (cI x11 x20 0),.str (cS x11 x20 1),.str (cS x11 x20 2),.lst (cL x11 x20 3),.str (cS x11 x20 4),.lst (cL x11 x20 5)] [.int x24])->
(((x24=0) ->
 Nd (cpdPre [.int (cI x11 x20 0),.str (cS x11 x20 1),.str (cS x11 x20 2),.lst (cL x11 x20 3),.str (cS x11 x20 4),.lst (cL x11 x20 5),.bool true]) (
 ∀x25:Int,
 ∀x26:List UInt8,
 ∀x27:List UInt8,
 ∀x28:Sx.Rows,
 ∀x29:List UInt8,
 ∀x30:Sx.Rows,
(cpdRel [.int (cI x11 x20 0),.str (cS x11 x20 1),.str (cS x11 x20 2),.lst (cL x11 x20 3),.str (cS x11 x20 4),.lst (cL x11 x20 5),.bool true] [.int x25,.str x26,.str x27,.lst x28,.str x29,.lst x30])->
 Ni (ln x22) (
 Nr (ln x22) (
 Nd (putPre [.int 5,.lst [],.str [],.str [],.int 0,.int (ln x21),.int x25,.str x26,.str x27,.lst x28,.str x29,.lst x30,.lst x12,.lst x22]) (
 ∀x31:Sx.Rows,
(putRel [.int 5,.lst [],.str [],.str [],.int 0,.int (ln x21),.int x25,.str x26,.str x27,.lst x28,.str x29,.lst x30,.lst x12,.lst x22] [.lst x31])->
 Nd (I64 (x20+1)) (
 Nd (¬((((ln x21)+1)+(ln (Sx.part x21 (ln x21) ((ln x21)-(ln x21)))))<((ln x21)+1))) (
 Ni (ln x31) (
 Nr (ln x31) (
 Nd (ndInv [.lst x11,.lst x15,.lst x16,.lst x12,.lst x18,.lst x19] [.int (x20+1),.lst (Sx.part ((x21++(Sx.chunk 1 1 [(.int ((-1)-x20))]))++(Sx.part x21 (ln x21) ((ln x21)-(ln x21)))) 0 ((ln x21)+1)),.lst x31]) (
 Nd (ndMu [.lst x11,.lst x15,.lst x16,.lst x12,.lst x18,.lst x19] [.int (x20+1),.lst (Sx.part ((x21++(Sx.chunk 1 1 [(.int ((-1)-x20))]))++(Sx.part x21 (ln x21) ((ln x21)-(ln x21)))) 0 ((ln x21)+1)),.lst x31]<ndMu [.lst x11,.lst x15,.lst x16,.lst x12,.lst x18,.lst x19] [.int x20,.lst x21,.lst x22]) True))))))))))/\(¬(x24=0)->
 Ni (ln x22) (
 Nr (ln x22) (
 Nd (putPre [.int 5,.lst [],.str [],.str [],.int 0,.int (ln x21),.int 0,.str [],.str [],.lst [],.str [],.lst [],.lst x12,.lst x22]) (
 ∀x25:Sx.Rows,
(putRel [.int 5,.lst [],.str [],.str [],.int 0,.int (ln x21),.int 0,.str [],.str [],.lst [],.str [],.lst [],.lst x12,.lst x22] [.lst x25])->
 Nd (I64 (x20+1)) (
 Nd (¬((((ln x21)+1)+(ln (Sx.part x21 (ln x21) ((ln x21)-(ln x21)))))<((ln x21)+1))) (
 Ni (ln x25) (
 Nr (ln x25) (
 Nd (ndInv [.lst x11,.lst x15,.lst x16,.lst x12,.lst x18,.lst x19] [.int (x20+1),.lst (Sx.part ((x21++(Sx.chunk 1 1 [(.int ((-1)-x20))]))++(Sx.part x21 (ln x21) ((ln x21)-(ln x21)))) 0 ((ln x21)+1)),.lst x25]) (
 Nd (ndMu [.lst x11,.lst x15,.lst x16,.lst x12,.lst x18,.lst x19] [.int (x20+1),.lst (Sx.part ((x21++(Sx.chunk 1 1 [(.int ((-1)-x20))]))++(Sx.part x21 (ln x21) ((ln x21)-(ln x21)))) 0 ((ln x21)+1)),.lst x25]<ndMu [.lst x11,.lst x15,.lst x16,.lst x12,.lst x18,.lst x19] [.int x20,.lst x21,.lst x22]) True))))))))))))))))))))))/\(¬((cI x15 x20 0)<0)->
 Nd (¬(x20<0)) (
 Nd (x20<(ln x15)) (
 Nd (ixnInv [.lst x21,.int (cI x15 x20 0)] [.int 0]) (
 ∀x23:Int,
(ixnInv [.lst x21,.int (cI x15 x20 0)] [.int x23])->
(((x23 < (ln x21))->
 Nd (¬(x23<0)) (
 Nd (x23<(ln x21)) (
 Nd (x23<(ln x21)) (
((((cI x15 x20 0)=(cI x21 x23 0))->
 Nd (¬(x20<0)) (
 Nd (x20<(ln x15)) (
 Nd (¬((cI x15 x20 0)<0)) (
 Nd ((cI x15 x20 0)<(ln x5)) (
 ∀x24:Bool,
(((x24=true) ->
((ln x12)=0) ->
 Ni (ln x22) (
 Nr (ln x22) (
 Nd ((nodePre [.int (cI x5 (cI x15 x20 0) 0),.str (cS x5 (cI x15 x20 0) 1),.str (cS x5 (cI x15 x20 0) 2),.lst (cL x5 (cI x15 x20 0) 3),.str (cS x5 (cI x15 x20 0) 4),.lst (cL x5 (cI x15 x20 0) 5),.int (cI x11 x20 0),.str (cS x11 x20 1),.str (cS x11 x20 2),.lst (cL x11 x20 3),.str (cS x11 x20 4),.lst (cL x11 x20 5),.lst (Sx.chunk 1 1 [(.int x23)]),.lst x22])/\nodeMu [.int (cI x5 (cI x15 x20 0) 0),.str (cS x5 (cI x15 x20 0) 1),.str (cS x5 (cI x15 x20 0) 2),.lst (cL x5 (cI x15 x20 0) 3),.str (cS x5 (cI x15 x20 0) 4),.lst (cL x5 (cI x15 x20 0) 5),.int (cI x11 x20 0),.str (cS x11 x20 1),.str (cS x11 x20 2),.lst (cL x11 x20 3),.str (cS x11 x20 4),.lst (cL x11 x20 5),.lst (Sx.chunk 1 1 [(.int x23)]),.lst x22]<n) (
 ∀x25:Sx.Rows,
(nodeRel [.int (cI x5 (cI x15 x20 0) 0),.str (cS x5 (cI x15 x20 0) 1),.str (cS x5 (cI x15 x20 0) 2),.lst (cL x5 (cI x15 x20 0) 3),.str (cS x5 (cI x15 x20 0) 4),.lst (cL x5 (cI x15 x20 0) 5),.int (cI x11 x20 0),.str (cS x11 x20 1),.str (cS x11 x20 2),.lst (cL x11 x20 3),.str (cS x11 x20 4),.lst (cL x11 x20 5),.lst (Sx.chunk 1 1 [(.int x23)]),.lst x22] [.lst x25])->
 Nd (¬(x20<0)) (
 Nd (x20<(ln x16)) (
((((cB x16 x20 0)=true)->
(vcNode2 n x20 x21 x25 x11 x15 x16 x12 x18 x19 x22))/\(¬((cB x16 x20 0)=true)->
(vcNode3 n x23 x21 x20 x15 x16 x25 x12 x11 x18 x19 x22)))))))))/\(¬(x24=true)->
 Nd ((ln x12)<67108865) (
(((0 < (ln x12))->
 Ni (ln x12) (
 Nd (((ln x12)+1)<67108865) (
 Nr (ln x12) (
 Ni ((ln x12)+1) (
 Nr ((ln x12)+1) (
 Ni (ln x22) (
 Nr (ln x22) (
 Nd ((nodePre [.int (cI x5 (cI x15 x20 0) 0),.str (cS x5 (cI x15 x20 0) 1),.str (cS x5 (cI x15 x20 0) 2),.lst (cL x5 (cI x15 x20 0) 3),.str (cS x5 (cI x15 x20 0) 4),.lst (cL x5 (cI x15 x20 0) 5),.int (cI x11 x20 0),.str (cS x11 x20 1),.str (cS x11 x20 2),.lst (cL x11 x20 3),.str (cS x11 x20 4),.lst (cL x11 x20 5),.lst (((Sx.chunk 1 0 [])++x12)++(Sx.chunk 1 1 [(.int x23)])),.lst x22])/\nodeMu [.int (cI x5 (cI x15 x20 0) 0),.str (cS x5 (cI x15 x20 0) 1),.str (cS x5 (cI x15 x20 0) 2),.lst (cL x5 (cI x15 x20 0) 3),.str (cS x5 (cI x15 x20 0) 4),.lst (cL x5 (cI x15 x20 0) 5),.int (cI x11 x20 0),.str (cS x11 x20 1),.str (cS x11 x20 2),.lst (cL x11 x20 3),.str (cS x11 x20 4),.lst (cL x11 x20 5),.lst (((Sx.chunk 1 0 [])++x12)++(Sx.chunk 1 1 [(.int x23)])),.lst x22]<n) (
 ∀x25:Sx.Rows,
(nodeRel [.int (cI x5 (cI x15 x20 0) 0),.str (cS x5 (cI x15 x20 0) 1),.str (cS x5 (cI x15 x20 0) 2),.lst (cL x5 (cI x15 x20 0) 3),.str (cS x5 (cI x15 x20 0) 4),.lst (cL x5 (cI x15 x20 0) 5),.int (cI x11 x20 0),.str (cS x11 x20 1),.str (cS x11 x20 2),.lst (cL x11 x20 3),.str (cS x11 x20 4),.lst (cL x11 x20 5),.lst (((Sx.chunk 1 0 [])++x12)++(Sx.chunk 1 1 [(.int x23)])),.lst x22] [.lst x25])->
 Nd (¬(x20<0)) (
 Nd (x20<(ln x16)) (
((((cB x16 x20 0)=true)->
(vcNode2 n x20 x21 x25 x11 x15 x16 x12 x18 x19 x22))/\(¬((cB x16 x20 0)=true)->
(vcNode3 n x23 x21 x20 x15 x16 x25 x12 x11 x18 x19 x22))))))))))))))/\(¬(0<(ln x12))->
 Nd (¬((ln (Sx.over (Sx.chunk 1 0 []) 0 x12))<(ln x12))) (
 Nd (((ln x12)+1)<67108865) (
(((0 < ((ln x12)+1))->
 Nd (¬(((ln (Sx.part (Sx.over (Sx.chunk 1 0 []) 0 x12) 0 (ln x12)))+1)<((ln x12)+1))) (
 Ni (ln x22) (
 Nr (ln x22) (
 Nd ((nodePre [.int (cI x5 (cI x15 x20 0) 0),.str (cS x5 (cI x15 x20 0) 1),.str (cS x5 (cI x15 x20 0) 2),.lst (cL x5 (cI x15 x20 0) 3),.str (cS x5 (cI x15 x20 0) 4),.lst (cL x5 (cI x15 x20 0) 5),.int (cI x11 x20 0),.str (cS x11 x20 1),.str (cS x11 x20 2),.lst (cL x11 x20 3),.str (cS x11 x20 4),.lst (cL x11 x20 5),.lst (Sx.part ((Sx.part (Sx.over (Sx.chunk 1 0 []) 0 x12) 0 (ln x12))++(Sx.chunk 1 1 [(.int x23)])) 0 ((ln x12)+1)),.lst x22])/\nodeMu [.int (cI x5 (cI x15 x20 0) 0),.str (cS x5 (cI x15 x20 0) 1),.str (cS x5 (cI x15 x20 0) 2),.lst (cL x5 (cI x15 x20 0) 3),.str (cS x5 (cI x15 x20 0) 4),.lst (cL x5 (cI x15 x20 0) 5),.int (cI x11 x20 0),.str (cS x11 x20 1),.str (cS x11 x20 2),.lst (cL x11 x20 3),.str (cS x11 x20 4),.lst (cL x11 x20 5),.lst (Sx.part ((Sx.part (Sx.over (Sx.chunk 1 0 []) 0 x12) 0 (ln x12))++(Sx.chunk 1 1 [(.int x23)])) 0 ((ln x12)+1)),.lst x22]<n) (
 ∀x25:Sx.Rows,
(nodeRel [.int (cI x5 (cI x15 x20 0) 0),.str (cS x5 (cI x15 x20 0) 1),.str (cS x5 (cI x15 x20 0) 2),.lst (cL x5 (cI x15 x20 0) 3),.str (cS x5 (cI x15 x20 0) 4),.lst (cL x5 (cI x15 x20 0) 5),.int (cI x11 x20 0),.str (cS x11 x20 1),.str (cS x11 x20 2),.lst (cL x11 x20 3),.str (cS x11 x20 4),.lst (cL x11 x20 5),.lst (Sx.part ((Sx.part (Sx.over (Sx.chunk 1 0 []) 0 x12) 0 (ln x12))++(Sx.chunk 1 1 [(.int x23)])) 0 ((ln x12)+1)),.lst x22] [.lst x25])->
 Nd (¬(x20<0)) (
 Nd (x20<(ln x16)) (
((((cB x16 x20 0)=true)->
(vcNode2 n x20 x21 x25 x11 x15 x16 x12 x18 x19 x22))/\(¬((cB x16 x20 0)=true)->
(vcNode3 n x23 x21 x20 x15 x16 x25 x12 x11 x18 x19 x22))))))))))/\(¬(0<((ln x12)+1))->
 Nd (¬((ln (Sx.over (Sx.over (Sx.chunk 1 0 []) 0 x12) (ln x12) (Sx.chunk 1 1 [(.int x23)])))<((ln x12)+1))) (
 Ni (ln x22) (
 Nr (ln x22) (
 Nd ((nodePre [.int (cI x5 (cI x15 x20 0) 0),.str (cS x5 (cI x15 x20 0) 1),.str (cS x5 (cI x15 x20 0) 2),.lst (cL x5 (cI x15 x20 0) 3),.str (cS x5 (cI x15 x20 0) 4),.lst (cL x5 (cI x15 x20 0) 5),.int (cI x11 x20 0),.str (cS x11 x20 1),.str (cS x11 x20 2),.lst (cL x11 x20 3),.str (cS x11 x20 4),.lst (cL x11 x20 5),.lst (Sx.part (Sx.over (Sx.over (Sx.chunk 1 0 []) 0 x12) (ln x12) (Sx.chunk 1 1 [(.int x23)])) 0 ((ln x12)+1)),.lst x22])/\nodeMu [.int (cI x5 (cI x15 x20 0) 0),.str (cS x5 (cI x15 x20 0) 1),.str (cS x5 (cI x15 x20 0) 2),.lst (cL x5 (cI x15 x20 0) 3),.str (cS x5 (cI x15 x20 0) 4),.lst (cL x5 (cI x15 x20 0) 5),.int (cI x11 x20 0),.str (cS x11 x20 1),.str (cS x11 x20 2),.lst (cL x11 x20 3),.str (cS x11 x20 4),.lst (cL x11 x20 5),.lst (Sx.part (Sx.over (Sx.over (Sx.chunk 1 0 []) 0 x12) (ln x12) (Sx.chunk 1 1 [(.int x23)])) 0 ((ln x12)+1)),.lst x22]<n) (
 ∀x25:Sx.Rows,
(nodeRel [.int (cI x5 (cI x15 x20 0) 0),.str (cS x5 (cI x15 x20 0) 1),.str (cS x5 (cI x15 x20 0) 2),.lst (cL x5 (cI x15 x20 0) 3),.str (cS x5 (cI x15 x20 0) 4),.lst (cL x5 (cI x15 x20 0) 5),.int (cI x11 x20 0),.str (cS x11 x20 1),.str (cS x11 x20 2),.lst (cL x11 x20 3),.str (cS x11 x20 4),.lst (cL x11 x20 5),.lst (Sx.part (Sx.over (Sx.over (Sx.chunk 1 0 []) 0 x12) (ln x12) (Sx.chunk 1 1 [(.int x23)])) 0 ((ln x12)+1)),.lst x22] [.lst x25])->
 Nd (¬(x20<0)) (
 Nd (x20<(ln x16)) (
((((cB x16 x20 0)=true)->
(vcNode2 n x20 x21 x25 x11 x15 x16 x12 x18 x19 x22))/\(¬((cB x16 x20 0)=true)->
(vcNode3 n x23 x21 x20 x15 x16 x25 x12 x11 x18 x19 x22)))))))))))))))))))))))/\(¬((cI x15 x20 0)=(cI x21 x23 0))->
(vcNode1 n x23 x21 x15 x20)))))))/\(¬(x23<(ln x21))->
 Nd (¬(x20<0)) (
 Nd (x20<(ln x15)) (
 Nd (¬((cI x15 x20 0)<0)) (
 Nd ((cI x15 x20 0)<(ln x5)) (
 ∀x24:Bool,
(((x24=true) ->
((ln x12)=0) ->
 Ni (ln x22) (
 Nr (ln x22) (
 Nd ((nodePre [.int (cI x5 (cI x15 x20 0) 0),.str (cS x5 (cI x15 x20 0) 1),.str (cS x5 (cI x15 x20 0) 2),.lst (cL x5 (cI x15 x20 0) 3),.str (cS x5 (cI x15 x20 0) 4),.lst (cL x5 (cI x15 x20 0) 5),.int (cI x11 x20 0),.str (cS x11 x20 1),.str (cS x11 x20 2),.lst (cL x11 x20 3),.str (cS x11 x20 4),.lst (cL x11 x20 5),.lst (Sx.chunk 1 1 [(.int (-1))]),.lst x22])/\nodeMu [.int (cI x5 (cI x15 x20 0) 0),.str (cS x5 (cI x15 x20 0) 1),.str (cS x5 (cI x15 x20 0) 2),.lst (cL x5 (cI x15 x20 0) 3),.str (cS x5 (cI x15 x20 0) 4),.lst (cL x5 (cI x15 x20 0) 5),.int (cI x11 x20 0),.str (cS x11 x20 1),.str (cS x11 x20 2),.lst (cL x11 x20 3),.str (cS x11 x20 4),.lst (cL x11 x20 5),.lst (Sx.chunk 1 1 [(.int (-1))]),.lst x22]<n) (
 ∀x25:Sx.Rows,
(nodeRel [.int (cI x5 (cI x15 x20 0) 0),.str (cS x5 (cI x15 x20 0) 1),.str (cS x5 (cI x15 x20 0) 2),.lst (cL x5 (cI x15 x20 0) 3),.str (cS x5 (cI x15 x20 0) 4),.lst (cL x5 (cI x15 x20 0) 5),.int (cI x11 x20 0),.str (cS x11 x20 1),.str (cS x11 x20 2),.lst (cL x11 x20 3),.str (cS x11 x20 4),.lst (cL x11 x20 5),.lst (Sx.chunk 1 1 [(.int (-1))]),.lst x22] [.lst x25])->
 Nd (¬(x20<0)) (
 Nd (x20<(ln x16)) (
((((cB x16 x20 0)=true)->
(vcNode2 n x20 x21 x25 x11 x15 x16 x12 x18 x19 x22))/\(¬((cB x16 x20 0)=true)->
(vcNode4 n x21 x20 x15 x16 x25 x12 x11 x18 x19 x22)))))))))/\(¬(x24=true)->
 Nd ((ln x12)<67108865) (
(((0 < (ln x12))->
 Ni (ln x12) (
 Nd (((ln x12)+1)<67108865) (
 Nr (ln x12) (
 Ni ((ln x12)+1) (
 Nr ((ln x12)+1) (
 Ni (ln x22) (
 Nr (ln x22) (
 Nd ((nodePre [.int (cI x5 (cI x15 x20 0) 0),.str (cS x5 (cI x15 x20 0) 1),.str (cS x5 (cI x15 x20 0) 2),.lst (cL x5 (cI x15 x20 0) 3),.str (cS x5 (cI x15 x20 0) 4),.lst (cL x5 (cI x15 x20 0) 5),.int (cI x11 x20 0),.str (cS x11 x20 1),.str (cS x11 x20 2),.lst (cL x11 x20 3),.str (cS x11 x20 4),.lst (cL x11 x20 5),.lst (((Sx.chunk 1 0 [])++x12)++(Sx.chunk 1 1 [(.int (-1))])),.lst x22])/\nodeMu [.int (cI x5 (cI x15 x20 0) 0),.str (cS x5 (cI x15 x20 0) 1),.str (cS x5 (cI x15 x20 0) 2),.lst (cL x5 (cI x15 x20 0) 3),.str (cS x5 (cI x15 x20 0) 4),.lst (cL x5 (cI x15 x20 0) 5),.int (cI x11 x20 0),.str (cS x11 x20 1),.str (cS x11 x20 2),.lst (cL x11 x20 3),.str (cS x11 x20 4),.lst (cL x11 x20 5),.lst (((Sx.chunk 1 0 [])++x12)++(Sx.chunk 1 1 [(.int (-1))])),.lst x22]<n) (
 ∀x25:Sx.Rows,
(nodeRel [.int (cI x5 (cI x15 x20 0) 0),.str (cS x5 (cI x15 x20 0) 1),.str (cS x5 (cI x15 x20 0) 2),.lst (cL x5 (cI x15 x20 0) 3),.str (cS x5 (cI x15 x20 0) 4),.lst (cL x5 (cI x15 x20 0) 5),.int (cI x11 x20 0),.str (cS x11 x20 1),.str (cS x11 x20 2),.lst (cL x11 x20 3),.str (cS x11 x20 4),.lst (cL x11 x20 5),.lst (((Sx.chunk 1 0 [])++x12)++(Sx.chunk 1 1 [(.int (-1))])),.lst x22] [.lst x25])->
 Nd (¬(x20<0)) (
 Nd (x20<(ln x16)) (
((((cB x16 x20 0)=true)->
(vcNode2 n x20 x21 x25 x11 x15 x16 x12 x18 x19 x22))/\(¬((cB x16 x20 0)=true)->
(vcNode4 n x21 x20 x15 x16 x25 x12 x11 x18 x19 x22))))))))))))))/\(¬(0<(ln x12))->
 Nd (¬((ln (Sx.over (Sx.chunk 1 0 []) 0 x12))<(ln x12))) (
 Nd (((ln x12)+1)<67108865) (
(((0 < ((ln x12)+1))->
 Nd (¬(((ln (Sx.part (Sx.over (Sx.chunk 1 0 []) 0 x12) 0 (ln x12)))+1)<((ln x12)+1))) (
 Ni (ln x22) (
 Nr (ln x22) (
 Nd ((nodePre [.int (cI x5 (cI x15 x20 0) 0),.str (cS x5 (cI x15 x20 0) 1),.str (cS x5 (cI x15 x20 0) 2),.lst (cL x5 (cI x15 x20 0) 3),.str (cS x5 (cI x15 x20 0) 4),.lst (cL x5 (cI x15 x20 0) 5),.int (cI x11 x20 0),.str (cS x11 x20 1),.str (cS x11 x20 2),.lst (cL x11 x20 3),.str (cS x11 x20 4),.lst (cL x11 x20 5),.lst (Sx.part ((Sx.part (Sx.over (Sx.chunk 1 0 []) 0 x12) 0 (ln x12))++(Sx.chunk 1 1 [(.int (-1))])) 0 ((ln x12)+1)),.lst x22])/\nodeMu [.int (cI x5 (cI x15 x20 0) 0),.str (cS x5 (cI x15 x20 0) 1),.str (cS x5 (cI x15 x20 0) 2),.lst (cL x5 (cI x15 x20 0) 3),.str (cS x5 (cI x15 x20 0) 4),.lst (cL x5 (cI x15 x20 0) 5),.int (cI x11 x20 0),.str (cS x11 x20 1),.str (cS x11 x20 2),.lst (cL x11 x20 3),.str (cS x11 x20 4),.lst (cL x11 x20 5),.lst (Sx.part ((Sx.part (Sx.over (Sx.chunk 1 0 []) 0 x12) 0 (ln x12))++(Sx.chunk 1 1 [(.int (-1))])) 0 ((ln x12)+1)),.lst x22]<n) (
 ∀x25:Sx.Rows,
(nodeRel [.int (cI x5 (cI x15 x20 0) 0),.str (cS x5 (cI x15 x20 0) 1),.str (cS x5 (cI x15 x20 0) 2),.lst (cL x5 (cI x15 x20 0) 3),.str (cS x5 (cI x15 x20 0) 4),.lst (cL x5 (cI x15 x20 0) 5),.int (cI x11 x20 0),.str (cS x11 x20 1),.str (cS x11 x20 2),.lst (cL x11 x20 3),.str (cS x11 x20 4),.lst (cL x11 x20 5),.lst (Sx.part ((Sx.part (Sx.over (Sx.chunk 1 0 []) 0 x12) 0 (ln x12))++(Sx.chunk 1 1 [(.int (-1))])) 0 ((ln x12)+1)),.lst x22] [.lst x25])->
 Nd (¬(x20<0)) (
 Nd (x20<(ln x16)) (
((((cB x16 x20 0)=true)->
(vcNode2 n x20 x21 x25 x11 x15 x16 x12 x18 x19 x22))/\(¬((cB x16 x20 0)=true)->
(vcNode4 n x21 x20 x15 x16 x25 x12 x11 x18 x19 x22))))))))))/\(¬(0<((ln x12)+1))->
 Nd (¬((ln (Sx.over (Sx.over (Sx.chunk 1 0 []) 0 x12) (ln x12) (Sx.chunk 1 1 [(.int (-1))])))<((ln x12)+1))) (
 Ni (ln x22) (
 Nr (ln x22) (
 Nd ((nodePre [.int (cI x5 (cI x15 x20 0) 0),.str (cS x5 (cI x15 x20 0) 1),.str (cS x5 (cI x15 x20 0) 2),.lst (cL x5 (cI x15 x20 0) 3),.str (cS x5 (cI x15 x20 0) 4),.lst (cL x5 (cI x15 x20 0) 5),.int (cI x11 x20 0),.str (cS x11 x20 1),.str (cS x11 x20 2),.lst (cL x11 x20 3),.str (cS x11 x20 4),.lst (cL x11 x20 5),.lst (Sx.part (Sx.over (Sx.over (Sx.chunk 1 0 []) 0 x12) (ln x12) (Sx.chunk 1 1 [(.int (-1))])) 0 ((ln x12)+1)),.lst x22])/\nodeMu [.int (cI x5 (cI x15 x20 0) 0),.str (cS x5 (cI x15 x20 0) 1),.str (cS x5 (cI x15 x20 0) 2),.lst (cL x5 (cI x15 x20 0) 3),.str (cS x5 (cI x15 x20 0) 4),.lst (cL x5 (cI x15 x20 0) 5),.int (cI x11 x20 0),.str (cS x11 x20 1),.str (cS x11 x20 2),.lst (cL x11 x20 3),.str (cS x11 x20 4),.lst (cL x11 x20 5),.lst (Sx.part (Sx.over (Sx.over (Sx.chunk 1 0 []) 0 x12) (ln x12) (Sx.chunk 1 1 [(.int (-1))])) 0 ((ln x12)+1)),.lst x22]<n) (
 ∀x25:Sx.Rows,
(nodeRel [.int (cI x5 (cI x15 x20 0) 0),.str (cS x5 (cI x15 x20 0) 1),.str (cS x5 (cI x15 x20 0) 2),.lst (cL x5 (cI x15 x20 0) 3),.str (cS x5 (cI x15 x20 0) 4),.lst (cL x5 (cI x15 x20 0) 5),.int (cI x11 x20 0),.str (cS x11 x20 1),.str (cS x11 x20 2),.lst (cL x11 x20 3),.str (cS x11 x20 4),.lst (cL x11 x20 5),.lst (Sx.part (Sx.over (Sx.over (Sx.chunk 1 0 []) 0 x12) (ln x12) (Sx.chunk 1 1 [(.int (-1))])) 0 ((ln x12)+1)),.lst x22] [.lst x25])->
 Nd (¬(x20<0)) (
 Nd (x20<(ln x16)) (
((((cB x16 x20 0)=true)->
(vcNode2 n x20 x21 x25 x11 x15 x16 x12 x18 x19 x22))/\(¬((cB x16 x20 0)=true)->
(vcNode4 n x21 x20 x15 x16 x25 x12 x11 x18 x19 x22))))))))))))))))))))))))))))))))))/\(¬(x20<(ln x11))->
 Ni (ln x22) (
 Nr (ln x22) (
 Nd (nodeRel [.int x0,.str x1,.str x2,.lst x3,.str x4,.lst x5,.int x6,.str x7,.str x8,.lst x9,.str x10,.lst x11,.lst x12,.lst x13] [.lst x22]) True)))))))))))))))))))
theorem vcNode_eq (n:Nat):(cvc Go.Proofs.Try.prog U0 (cNode.below nodeMu (n+1)) (sxF Go.Proofs.Try.prog U0 annsD (E6 Go.Proofs.Try.prog U0 ((27,cNode.below nodeMu n)::stageD 3) (primsD Go.Proofs.Try.prog)) 400 27)).vc U0 (fun _=>True)=vcNode n:=by kernel_rfl
def vcDdf0 (x0:Int)(x1:List UInt8)(x2:List UInt8)(x3:Sx.Rows)(x4:List UInt8)(x5:Sx.Rows)(x13:Int)(x14:List UInt8)(x15:List UInt8)(x16:Sx.Rows)(x17:List UInt8)(x18:Sx.Rows):Prop:=
 Nd (chkPre [.int x0,.str x1,.str x2,.lst x3,.str x4,.lst x5]) (
 ∀x6:Int,
(chkRel [.int x0,.str x1,.str x2,.lst x3,.str x4,.lst x5] [.int x6])->
(((x6=0) ->
 Nd (cpdPre [.int x0,.str x1,.str x2,.lst x3,.str x4,.lst x5,.bool true]) (
 ∀x7:Int,
 ∀x8:List UInt8,
 ∀x9:List UInt8,
 ∀x10:Sx.Rows,
 ∀x11:List UInt8,
 ∀x12:Sx.Rows,
(cpdRel [.int x0,.str x1,.str x2,.lst x3,.str x4,.lst x5,.bool true] [.int x7,.str x8,.str x9,.lst x10,.str x11,.lst x12])->
 Nd (ddfRel [.int x13,.str x14,.str x15,.lst x16,.str x17,.lst x18,.int x0,.str x1,.str x2,.lst x3,.str x4,.lst x5] [.lst (Sx.chunk 12 1 [(.int 7),(.lst []),(.str []),(.str []),(.int 0),(.int 0),(.int x7),(.str x8),(.str x9),(.lst x10),(.str x11),(.lst x12)]),.int 0]) True))/\(¬(x6=0)->
 Nd (ddfRel [.int x13,.str x14,.str x15,.lst x16,.str x17,.lst x18,.int x0,.str x1,.str x2,.lst x3,.str x4,.lst x5] [.lst (Sx.chunk 12 1 [(.int 7),(.lst []),(.str []),(.str []),(.int 0),(.int 0),(.int 0),(.str []),(.str []),(.lst []),(.str []),(.lst [])]),.int 0]) True)))
def vcDdf :Prop:=
 ∀x0:Int,
 ∀x1:List UInt8,
 ∀x2:List UInt8,
 ∀x3:Sx.Rows,
 ∀x4:List UInt8,
 ∀x5:Sx.Rows,
 ∀x6:Int,
 ∀x7:List UInt8,
 ∀x8:List UInt8,
 ∀x9:Sx.Rows,
 ∀x10:List UInt8,
 ∀x11:Sx.Rows,
(ddfPre [.int x0,.str x1,.str x2,.lst x3,.str x4,.lst x5,.int x6,.str x7,.str x8,.lst x9,.str x10,.lst x11])->
 Nd (chkPre [.int x0,.str x1,.str x2,.lst x3,.str x4,.lst x5]) (
 ∀x12:Int,
(chkRel [.int x0,.str x1,.str x2,.lst x3,.str x4,.lst x5] [.int x12])->
(((x12=0) ->
 Nd (chkPre [.int x6,.str x7,.str x8,.lst x9,.str x10,.lst x11]) (
 ∀x13:Int,
(chkRel [.int x6,.str x7,.str x8,.lst x9,.str x10,.lst x11] [.int x13])->
(((x13=0) ->
(((x0=x6) ->
(((x1=x7) ->
 Nd (nodePre [.int x0,.str x1,.str x2,.lst x3,.str x4,.lst x5,.int x6,.str x7,.str x8,.lst x9,.str x10,.lst x11,.lst [],.lst []]) (
 ∀x14:Sx.Rows,
(nodeRel [.int x0,.str x1,.str x2,.lst x3,.str x4,.lst x5,.int x6,.str x7,.str x8,.lst x9,.str x10,.lst x11,.lst [],.lst []] [.lst x14])->
 Nd (¬((ln x14)<0)) (
 Ni (ln x14) (
 Ni (ln x14) (
 Ni (ln x14) (
 Nr (ln x14) (
 Nd (ddfRel [.int x0,.str x1,.str x2,.lst x3,.str x4,.lst x5,.int x6,.str x7,.str x8,.lst x9,.str x10,.lst x11] [.lst x14,.int 0]) True)))))))/\(¬(x1=x7)->
(vcDdf0 x6 x7 x8 x9 x10 x11 x0 x1 x2 x3 x4 x5))))/\(¬(x0=x6)->
(vcDdf0 x6 x7 x8 x9 x10 x11 x0 x1 x2 x3 x4 x5))))/\(¬(x13=0)->
 Nd (ddfRel [.int x0,.str x1,.str x2,.lst x3,.str x4,.lst x5,.int x6,.str x7,.str x8,.lst x9,.str x10,.lst x11] [.lst [],.int x13]) True))))/\(¬(x12=0)->
 Nd (¬(x12=0)) (
 Nd (ddfRel [.int x0,.str x1,.str x2,.lst x3,.str x4,.lst x5,.int x6,.str x7,.str x8,.lst x9,.str x10,.lst x11] [.lst [],.int x12]) True))))
theorem vcDdf_eq :(cvc Go.Proofs.Try.prog U0 cDdf (sxF Go.Proofs.Try.prog U0 annsD (E6 Go.Proofs.Try.prog U0 (stageD 4) (primsD Go.Proofs.Try.prog)) 400 8)).vc U0 (fun _=>True)=vcDdf:=by kernel_rfl
end Go.D
