/- The conditions of contracts, as the engine's printer has written them, and that the kernel comes to the same.
  Conditions: none. -/
import Derived.Test.YtcjhhnoaoldcmaaA1
import Derived.Test.YtcjhhnoaoldcmaaRows
import Derived.KernelRfl
set_option linter.unusedVariables false
set_option maxRecDepth 100000
namespace Go.D
open Go Go.Xe Go.Sx
def vcNamed0 (x0:List UInt8)(x1:Int):Prop:=
((((Sx.byteAt x0 x1)<48)->
 Nd (namedRel [.str x0] [.bool false]) True)/\(¬((Sx.byteAt x0 x1)<48)->
(((57 < (Sx.byteAt x0 x1))->
 Nd (namedRel [.str x0] [.bool false]) True)/\(¬(57<(Sx.byteAt x0 x1))->
 Nd (I64 (x1+1)) (
 Nd (nmInv [.str x0] [.int (x1+1)]) (
 Nd (nmMu [.str x0] [.int (x1+1)]<nmMu [.str x0] [.int x1]) True))))))
def vcNamed :Prop:=
 ∀x0:List UInt8,
(namedPre [.str x0])->
((((ln x0) <1)->
 Nd (namedRel [.str x0] [.bool false]) True)/\(¬((ln x0)<1)->
(((16 < (ln x0))->
 Nd (namedRel [.str x0] [.bool false]) True)/\(¬(16<(ln x0))->
 Nd (nmInv [.str x0] [.int 0]) (
 ∀x1:Int,
(nmInv [.str x0] [.int x1])->
(((x1 < (ln x0))->
 Nd (¬(x1<0)) (
 Nd (x1<(ln x0)) (
((((Sx.byteAt x0 x1)<97)->
(vcNamed0 x0 x1))/\(¬((Sx.byteAt x0 x1)<97)->
(((122 < (Sx.byteAt x0 x1))->
(vcNamed0 x0 x1))/\(¬(122<(Sx.byteAt x0 x1))->
 Nd (I64 (x1+1)) (
 Nd (nmInv [.str x0] [.int (x1+1)]) (
 Nd (nmMu [.str x0] [.int (x1+1)]<nmMu [.str x0] [.int x1]) True)))))))))/\(¬(x1<(ln x0))->
 Nd (namedRel [.str x0] [.bool true]) True)))))))
theorem vcNamed_eq :(cvc Go.Proofs.Try.prog U0 cNamed (sxF Go.Proofs.Try.prog U0 annsA (E6 Go.Proofs.Try.prog U0 (stageA 0) (primsA Go.Proofs.Try.prog)) 400 102)).vc U0 (fun _=>True)=vcNamed:=by kernel_rfl
def vcText :Prop:=
 ∀x0:List UInt8,
(textPre [.str x0])->
(((64 < (ln x0))->
 Nd (textRel [.str x0] [.bool false]) True)/\(¬(64<(ln x0))->
 Nd (x0=x0) (
 Nd (stInv [.str x0] [.int 0]) (
 ∀x1:Int,
(stInv [.str x0] [.int x1])->
(((x1 < (ln x0))->
((((Sx.runeAt x0 x1)<32)->
 Nd (textRel [.str x0] [.bool (decide (x1<0))]) True)/\(¬((Sx.runeAt x0 x1)<32)->
(((126 < (Sx.runeAt x0 x1))->
 Nd (textRel [.str x0] [.bool (decide (x1<0))]) True)/\(¬(126<(Sx.runeAt x0 x1))->
 Nd (x0=x0) (
 Nd (stInv [.str x0] [.int (x1+(Sx.runeW x0 x1))]) (
 Nd (stMu [.str x0] [.int (x1+(Sx.runeW x0 x1))]<stMu [.str x0] [.int x1]) True)))))))/\(¬(x1<(ln x0))->
 Nd (textRel [.str x0] [.bool true]) True))))))
theorem vcText_eq :(cvc Go.Proofs.Try.prog U0 cText (sxF Go.Proofs.Try.prog U0 annsA (E6 Go.Proofs.Try.prog U0 (stageA 0) (primsA Go.Proofs.Try.prog)) 400 101)).vc U0 (fun _=>True)=vcText:=by kernel_rfl
def vcAlone0 (x0:Sx.Rows):Prop:=
((((cS x0 0 4)=([]:List UInt8))->
(((8 < (ln (cL x0 0 3)))->
 Nd (aloneRel [.lst x0] [.bool false]) True)/\(¬(8<(ln (cL x0 0 3)))->
(((16 < (ln (cL x0 0 5)))->
 Nd (aloneRel [.lst x0] [.bool false]) True)/\(¬(16<(ln (cL x0 0 5)))->
 Nd (attInv [.lst (cL x0 0 3)] [.int 0]) (
 ∀x1:Int,
(attInv [.lst (cL x0 0 3)] [.int x1])->
(((x1 < (ln (cL x0 0 3)))->
 Nd (¬(x1<0)) (
 Nd (x1<(ln (cL x0 0 3))) (
 Nd (namedPre [.str (cS (cL x0 0 3) x1 0)]) (
 ∀x2:Bool,
(namedRel [.str (cS (cL x0 0 3) x1 0)] [.bool x2])->
(((x2=true) ->
 Nd (textPre [.str (cS (cL x0 0 3) x1 1)]) (
 ∀x3:Bool,
(textRel [.str (cS (cL x0 0 3) x1 1)] [.bool x3])->
(((x3=true) ->
(((0 < x1)->
 Nd (I64 (x1+(-1))) (
 Nd (¬((x1+(-1))<0)) (
 Nd ((x1+(-1))<(ln (cL x0 0 3))) (
((((Op.bytesLess (cS (cL x0 0 3) x1 0) (cS (cL x0 0 3) (x1+(-1)) 0))=true)->
 Nd (aloneRel [.lst x0] [.bool false]) True)/\(¬((Op.bytesLess (cS (cL x0 0 3) x1 0) (cS (cL x0 0 3) (x1+(-1)) 0))=true)->
((((cS (cL x0 0 3) x1 0)=(cS (cL x0 0 3) (x1+(-1)) 0))->
 Nd (aloneRel [.lst x0] [.bool false]) True)/\(¬((cS (cL x0 0 3) x1 0)=(cS (cL x0 0 3) (x1+(-1)) 0))->
 Nd (I64 (x1+1)) (
 Nd (attInv [.lst (cL x0 0 3)] [.int (x1+1)]) (
 Nd (attMu [.lst (cL x0 0 3)] [.int (x1+1)]<attMu [.lst (cL x0 0 3)] [.int x1]) True))))))))))/\(¬(0<x1)->
 Nd (I64 (x1+1)) (
 Nd (attInv [.lst (cL x0 0 3)] [.int (x1+1)]) (
 Nd (attMu [.lst (cL x0 0 3)] [.int (x1+1)]<attMu [.lst (cL x0 0 3)] [.int x1]) True)))))/\(¬(x3=true)->
 Nd (aloneRel [.lst x0] [.bool false]) True))))/\(¬(x2=true)->
 Nd (aloneRel [.lst x0] [.bool false]) True))))))/\(¬(x1<(ln (cL x0 0 3)))->
 Nd (kidInv [.lst (cL x0 0 5)] [.int 0]) (
 ∀x2:Int,
(kidInv [.lst (cL x0 0 5)] [.int x2])->
(((x2 < (ln (cL x0 0 5)))->
 Nd (¬(x2<0)) (
 Nd (x2<(ln (cL x0 0 5))) (
((((cS (cL x0 0 5) x2 2)=([]:List UInt8))->
 Nd (I64 (x2+1)) (
 Nd (kidInv [.lst (cL x0 0 5)] [.int (x2+1)]) (
 Nd (kidMu [.lst (cL x0 0 5)] [.int (x2+1)]<kidMu [.lst (cL x0 0 5)] [.int x2]) True)))/\(¬((cS (cL x0 0 5) x2 2)=([]:List UInt8))->
 Nd (¬(x2<0)) (
 Nd (¬((ln (cL x0 0 5))<x2)) (
 Nd (idxInv [.lst (Sx.part (cL x0 0 5) 0 x2),.str (cS (cL x0 0 5) x2 2)] [.int 0]) (
 ∀x3:Int,
(idxInv [.lst (Sx.part (cL x0 0 5) 0 x2),.str (cS (cL x0 0 5) x2 2)] [.int x3])->
(((x3 < (ln (Sx.part (cL x0 0 5) 0 x2)))->
 Nd (¬(x3<0)) (
 Nd (x3<(ln (Sx.part (cL x0 0 5) 0 x2))) (
((((cS (Sx.part (cL x0 0 5) 0 x2) x3 2)=(cS (cL x0 0 5) x2 2))->
(((x3 < 0)->
 Nd (I64 (x2+1)) (
 Nd (kidInv [.lst (cL x0 0 5)] [.int (x2+1)]) (
 Nd (kidMu [.lst (cL x0 0 5)] [.int (x2+1)]<kidMu [.lst (cL x0 0 5)] [.int x2]) True)))/\(¬(x3<0)->
 Nd (aloneRel [.lst x0] [.bool false]) True)))/\(¬((cS (Sx.part (cL x0 0 5) 0 x2) x3 2)=(cS (cL x0 0 5) x2 2))->
 Nd (I64 (x3+1)) (
 Nd (idxInv [.lst (Sx.part (cL x0 0 5) 0 x2),.str (cS (cL x0 0 5) x2 2)] [.int (x3+1)]) (
 Nd (idxMu [.lst (Sx.part (cL x0 0 5) 0 x2),.str (cS (cL x0 0 5) x2 2)] [.int (x3+1)]<idxMu [.lst (Sx.part (cL x0 0 5) 0 x2),.str (cS (cL x0 0 5) x2 2)] [.int x3]) True)))))))/\(¬(x3<(ln (Sx.part (cL x0 0 5) 0 x2)))->
 Nd (I64 (x2+1)) (
 Nd (kidInv [.lst (cL x0 0 5)] [.int (x2+1)]) (
 Nd (kidMu [.lst (cL x0 0 5)] [.int (x2+1)]<kidMu [.lst (cL x0 0 5)] [.int x2]) True))))))))))))/\(¬(x2<(ln (cL x0 0 5)))->
 Nd (aloneRel [.lst x0] [.bool true]) True)))))))))))/\(¬((cS x0 0 4)=([]:List UInt8))->
 Nd (aloneRel [.lst x0] [.bool false]) True))
def vcAlone :Prop:=
 ∀x0:Sx.Rows,
(alonePre [.lst x0])->
((((cI x0 0 0)=2)->
 Nd (textPre [.str (cS x0 0 4)]) (
 ∀x1:Bool,
(textRel [.str (cS x0 0 4)] [.bool x1])->
(((x1=true) ->
((((cS x0 0 1)=([]:List UInt8))->
((((cS x0 0 2)=([]:List UInt8))->
((((ln (cL x0 0 3))=0)->
 Nd (aloneRel [.lst x0] [.bool (decide ((ln (cL x0 0 5))=0))]) True)/\(¬((ln (cL x0 0 3))=0)->
 Nd (aloneRel [.lst x0] [.bool false]) True)))/\(¬((cS x0 0 2)=([]:List UInt8))->
 Nd (aloneRel [.lst x0] [.bool false]) True)))/\(¬((cS x0 0 1)=([]:List UInt8))->
 Nd (aloneRel [.lst x0] [.bool false]) True)))/\(¬(x1=true)->
 Nd (aloneRel [.lst x0] [.bool false]) True))))/\(¬((cI x0 0 0)=2)->
((((cI x0 0 0)=1)->
 Nd (namedPre [.str (cS x0 0 1)]) (
 ∀x1:Bool,
(namedRel [.str (cS x0 0 1)] [.bool x1])->
(((x1=true) ->
((((cS x0 0 2)=([]:List UInt8))->
(vcAlone0 x0))/\(¬ ((cS x0 0 2)=([]:List UInt8))->
 Nd (namedPre [.str (cS x0 0 2)]) (
 ∀x2:Bool,
(namedRel [.str (cS x0 0 2)] [.bool x2])->
(((x2=true) ->
(vcAlone0 x0))/\(¬ (x2=true)->
 Nd (aloneRel [.lst x0] [.bool false]) True))))))/\(¬(x1=true)->
 Nd (aloneRel [.lst x0] [.bool false]) True))))/\(¬((cI x0 0 0)=1)->
 Nd (aloneRel [.lst x0] [.bool false]) True))))
theorem vcAlone_eq :(cvc Go.Proofs.Try.prog U0 cAlone (sxF Go.Proofs.Try.prog U0 annsA (E6 Go.Proofs.Try.prog U0 (stageA 1) (primsA Go.Proofs.Try.prog)) 400 94)).vc U0 (fun _=>True)=vcAlone:=by kernel_rfl
def vcWalk (n:Nat):Prop:=
 ∀x0:Sx.Rows,
 ∀x1:Int,
 ∀x2:Int,
 ∀x3:Int,
((walkPre [.lst x0,.int x1,.int x2,.int x3])/\walkMu [.lst x0,.int x1,.int x2,.int x3]<n+1)->
 Nd (I64 (x2+1)) (
(((x3 < x1)->
(((6 < x1)->
 Nd (walkRel [.lst x0,.int x1,.int x2,.int x3] [.bool false,.int (x2+1),.int x1]) True)/\(¬(6<x1)->
(((64 < (x2+1))->
 Nd (walkRel [.lst x0,.int x1,.int x2,.int x3] [.bool false,.int (x2+1),.int x1]) True)/\(¬(64<(x2+1))->
 Nd (alonePre [.lst (Sx.part x0 0 1)]) (
 ∀x4:Bool,
(aloneRel [.lst (Sx.part x0 0 1)] [.bool x4])->
(((x4=true) ->
 Nd (wlkInv [.lst x0,.int x1,.int (x2+1),.int x1] [.int 0,.int (x2+1),.int x1]) (
 ∀x5:Int,
 ∀x6:Int,
 ∀x7:Int,
(wlkInv [.lst x0,.int x1,.int (x2+1),.int x1] [.int x5,.int x6,.int x7])->
(((x5 < (ln (cL x0 0 5)))->
 Nd (¬(x5<0)) (
 Nd (x5<(ln (cL x0 0 5))) (
 Nd (I64 (x1+1)) (
 Nd ((walkPre [.lst (Sx.part (cL x0 0 5) x5 1),.int (x1+1),.int x6,.int x7])/\walkMu [.lst (Sx.part (cL x0 0 5) x5 1),.int (x1+1),.int x6,.int x7]<n) (
 ∀x8:Bool,
 ∀x9:Int,
 ∀x10:Int,
(walkRel [.lst (Sx.part (cL x0 0 5) x5 1),.int (x1+1),.int x6,.int x7] [.bool x8,.int x9,.int x10])->
(((x8=true) ->
 Nd (I64 (x5+1)) (
 Nd (wlkInv [.lst x0,.int x1,.int (x2+1),.int x1] [.int (x5+1),.int x9,.int x10]) (
 Nd (wlkMu [.lst x0,.int x1,.int (x2+1),.int x1] [.int (x5+1),.int x9,.int x10]<wlkMu [.lst x0,.int x1,.int (x2+1),.int x1] [.int x5,.int x6,.int x7]) True)))/\(¬(x8=true)->
 Nd (walkRel [.lst x0,.int x1,.int x2,.int x3] [.bool false,.int x9,.int x10]) True)))))))/\(¬(x5<(ln (cL x0 0 5)))->
 Nd (walkRel [.lst x0,.int x1,.int x2,.int x3] [.bool true,.int x6,.int x7]) True))))/\(¬(x4=true)->
 Nd (walkRel [.lst x0,.int x1,.int x2,.int x3] [.bool false,.int (x2+1),.int x1]) True))))))))/\(¬(x3<x1)->
(((6 < x1)->
 Nd (walkRel [.lst x0,.int x1,.int x2,.int x3] [.bool false,.int (x2+1),.int x3]) True)/\(¬(6<x1)->
(((64 < (x2+1))->
 Nd (walkRel [.lst x0,.int x1,.int x2,.int x3] [.bool false,.int (x2+1),.int x3]) True)/\(¬(64<(x2+1))->
 Nd (alonePre [.lst (Sx.part x0 0 1)]) (
 ∀x4:Bool,
(aloneRel [.lst (Sx.part x0 0 1)] [.bool x4])->
(((x4=true) ->
 Nd (wlkInv [.lst x0,.int x1,.int (x2+1),.int x3] [.int 0,.int (x2+1),.int x3]) (
 ∀x5:Int,
 ∀x6:Int,
 ∀x7:Int,
(wlkInv [.lst x0,.int x1,.int (x2+1),.int x3] [.int x5,.int x6,.int x7])->
(((x5 < (ln (cL x0 0 5)))->
 Nd (¬(x5<0)) (
 Nd (x5<(ln (cL x0 0 5))) (
 Nd (I64 (x1+1)) (
 Nd ((walkPre [.lst (Sx.part (cL x0 0 5) x5 1),.int (x1+1),.int x6,.int x7])/\walkMu [.lst (Sx.part (cL x0 0 5) x5 1),.int (x1+1),.int x6,.int x7]<n) (
 ∀x8:Bool,
 ∀x9:Int,
 ∀x10:Int,
(walkRel [.lst (Sx.part (cL x0 0 5) x5 1),.int (x1+1),.int x6,.int x7] [.bool x8,.int x9,.int x10])->
(((x8=true) ->
 Nd (I64 (x5+1)) (
 Nd (wlkInv [.lst x0,.int x1,.int (x2+1),.int x3] [.int (x5+1),.int x9,.int x10]) (
 Nd (wlkMu [.lst x0,.int x1,.int (x2+1),.int x3] [.int (x5+1),.int x9,.int x10]<wlkMu [.lst x0,.int x1,.int (x2+1),.int x3] [.int x5,.int x6,.int x7]) True)))/\(¬(x8=true)->
 Nd (walkRel [.lst x0,.int x1,.int x2,.int x3] [.bool false,.int x9,.int x10]) True)))))))/\(¬(x5<(ln (cL x0 0 5)))->
 Nd (walkRel [.lst x0,.int x1,.int x2,.int x3] [.bool true,.int x6,.int x7]) True))))/\(¬(x4=true)->
 Nd (walkRel [.lst x0,.int x1,.int x2,.int x3] [.bool false,.int (x2+1),.int x3]) True))))))))))
theorem vcWalk_eq (n:Nat):(cvc Go.Proofs.Try.prog U0 (cWalk.below walkMu (n+1)) (sxF Go.Proofs.Try.prog U0 annsA (E6 Go.Proofs.Try.prog U0 ((93,cWalk.below walkMu n)::stageA 2) (primsA Go.Proofs.Try.prog)) 400 93)).vc U0 (fun _=>True)=vcWalk n:=by kernel_rfl
def vcChk :Prop:=
 ∀x0:Int,
 ∀x1:List UInt8,
 ∀x2:List UInt8,
 ∀x3:Sx.Rows,
 ∀x4:List UInt8,
 ∀x5:Sx.Rows,
(chkPre [.int x0,.str x1,.str x2,.lst x3,.str x4,.lst x5])->
 Nd (walkPre [.lst (Sx.part (Sx.chunk 6 1 [(.int x0),(.str x1),(.str x2),(.lst x3),(.str x4),(.lst x5)]) 0 1),.int 1,.int 0,.int 0]) (
 ∀x6:Bool,
 ∀x7:Int,
 ∀x8:Int,
(walkRel [.lst (Sx.part (Sx.chunk 6 1 [(.int x0),(.str x1),(.str x2),(.lst x3),(.str x4),(.lst x5)]) 0 1),.int 1,.int 0,.int 0] [.bool x6,.int x7,.int x8])->
(((x6=true) ->
(((x7=0) ->
 Nd (chkRel [.int x0,.str x1,.str x2,.lst x3,.str x4,.lst x5] [.int 14]) True)/\(¬(x7=0)->
 Nd (chkRel [.int x0,.str x1,.str x2,.lst x3,.str x4,.lst x5] [.int 0]) True)))/\(¬(x6=true)->
 Nd (chkRel [.int x0,.str x1,.str x2,.lst x3,.str x4,.lst x5] [.int 14]) True)))
theorem vcChk_eq :(cvc Go.Proofs.Try.prog U0 cChk (sxF Go.Proofs.Try.prog U0 annsA (E6 Go.Proofs.Try.prog U0 (stageA 3) (primsA Go.Proofs.Try.prog)) 400 34)).vc U0 (fun _=>True)=vcChk:=by kernel_rfl
def vcCpd0 (n:Nat)(x0:Int)(x1:Sx.Rows)(x2:Bool)(x9:Sx.Rows):Prop:=
 Nd (¬(x0<0)) (
 Nd (x0<(ln x1)) (
 Nd ((cpdPre [.int (cI x1 x0 0),.str (cS x1 x0 1),.str (cS x1 x0 2),.lst (cL x1 x0 3),.str (cS x1 x0 4),.lst (cL x1 x0 5),.bool x2])/\cpdMu [.int (cI x1 x0 0),.str (cS x1 x0 1),.str (cS x1 x0 2),.lst (cL x1 x0 3),.str (cS x1 x0 4),.lst (cL x1 x0 5),.bool x2]<n) (
 ∀x3:Int,
 ∀x4:List UInt8,
 ∀x5:List UInt8,
 ∀x6:Sx.Rows,
 ∀x7:List UInt8,
 ∀x8:Sx.Rows,
(cpdRel [.int (cI x1 x0 0),.str (cS x1 x0 1),.str (cS x1 x0 2),.lst (cL x1 x0 3),.str (cS x1 x0 4),.lst (cL x1 x0 5),.bool x2] [.int x3,.str x4,.str x5,.lst x6,.str x7,.lst x8])->
 Nd (¬(x0<0)) (
 Nd (x0<(ln x9)) (
 Nd (x0<(ln x9)) (
 Nd (I64 (x0+1)) (
 Ni (ln x9) (
 Nr (ln x9) (
 Nr (ln x1) (
 Ni (ln x1) (
 Nd (cpiInv [.lst x1,.bool x2] [.int (x0+1),.lst (Sx.setAt (Sx.setAt (Sx.setAt (Sx.setAt (Sx.setAt (Sx.setAt x9 x0 0 (.int x3)) x0 1 (.str x4)) x0 2 (.str x5)) x0 3 (.lst x6)) x0 4 (.str x7)) x0 5 (.lst x8))]) (
 Nd (cpiMu [.lst x1,.bool x2] [.int (x0+1),.lst (Sx.setAt (Sx.setAt (Sx.setAt (Sx.setAt (Sx.setAt (Sx.setAt x9 x0 0 (.int x3)) x0 1 (.str x4)) x0 2 (.str x5)) x0 3 (.lst x6)) x0 4 (.str x7)) x0 5 (.lst x8))]<cpiMu [.lst x1,.bool x2] [.int x0,.lst x9]) True))))))))))))
def vcCpd (n:Nat):Prop:=
 ∀x0:Int,
 ∀x1:List UInt8,
 ∀x2:List UInt8,
 ∀x3:Sx.Rows,
 ∀x4:List UInt8,
 ∀x5:Sx.Rows,
 ∀x6:Bool,
((cpdPre [.int x0,.str x1,.str x2,.lst x3,.str x4,.lst x5,.bool x6])/\cpdMu [.int x0,.str x1,.str x2,.lst x3,.str x4,.lst x5,.bool x6]<n+1)->
(((x6=true) ->
 ∀x7:Bool,
(((x7=true) ->
((ln x3)=0) ->
 Nd (¬((ln x5)<0)) (
 Ni (ln x5) (
 Nd ((ln x5)<1048577) (
 Nd (¬((ln (List.replicate ((ln x5)).toNat [(.int 0),(.str []),(.str []),(.lst []),(.str []),(.lst [])]:Sx.Rows))<(ln x5))) (
 Nr (ln x5) (
 Ni (ln x5) (
 Nd (cpiInv [.lst x5,.bool x6] [.int 0,.lst (Sx.part (List.replicate ((ln x5)).toNat [(.int 0),(.str []),(.str []),(.lst []),(.str []),(.lst [])]:Sx.Rows) 0 (ln x5))]) (
 ∀x8:Int,
 ∀x9:Sx.Rows,
(cpiInv [.lst x5,.bool x6] [.int x8,.lst x9])->
(((x8 < (ln x5))->
(vcCpd0 n x8 x5 x6 x9))/\(¬(x8<(ln x5))->
 Ni (ln x9) (
 Nr (ln x9) (
 Nd (cpdRel [.int x0,.str x1,.str x2,.lst x3,.str x4,.lst x5,.bool x6] [.int x0,.str x1,.str x2,.lst [],.str x4,.lst x9]) True))))))))))))/\(¬(x7=true)->
 Nd ((ln x3)<67108865) (
(((0 < (ln x3))->
 Nd (¬((ln x3)<0)) (
 Ni (ln x3) (
 Ni (ln x3) (
 Nd (¬((ln x5)<0)) (
 Ni (ln x5) (
 Nd ((ln x5)<1048577) (
 Nd (¬((ln (List.replicate ((ln x5)).toNat [(.int 0),(.str []),(.str []),(.lst []),(.str []),(.lst [])]:Sx.Rows))<(ln x5))) (
 Nr (ln x5) (
 Ni (ln x5) (
 Nd (cpiInv [.lst x5,.bool x6] [.int 0,.lst (Sx.part (List.replicate ((ln x5)).toNat [(.int 0),(.str []),(.str []),(.lst []),(.str []),(.lst [])]:Sx.Rows) 0 (ln x5))]) (
 ∀x8:Int,
 ∀x9:Sx.Rows,
(cpiInv [.lst x5,.bool x6] [.int x8,.lst x9])->
(((x8 < (ln x5))->
(vcCpd0 n x8 x5 x6 x9))/\(¬(x8<(ln x5))->
 Ni (ln x3) (
 Nr (ln x3) (
 Ni (ln x9) (
 Nr (ln x9) (
 Nd (cpdRel [.int x0,.str x1,.str x2,.lst x3,.str x4,.lst x5,.bool x6] [.int x0,.str x1,.str x2,.lst ((Sx.chunk 2 0 [])++x3),.str x4,.lst x9]) True)))))))))))))))))/\(¬(0<(ln x3))->
 Nd (¬((ln x3)<0)) (
 Ni (ln x3) (
 Nd (¬(0<(ln x3))) (
 Nd (¬((ln x5)<0)) (
 Ni (ln x5) (
 Nd ((ln x5)<1048577) (
 Nd (¬((ln (List.replicate ((ln x5)).toNat [(.int 0),(.str []),(.str []),(.lst []),(.str []),(.lst [])]:Sx.Rows))<(ln x5))) (
 Nr (ln x5) (
 Ni (ln x5) (
 Nd (cpiInv [.lst x5,.bool x6] [.int 0,.lst (Sx.part (List.replicate ((ln x5)).toNat [(.int 0),(.str []),(.str []),(.lst []),(.str []),(.lst [])]:Sx.Rows) 0 (ln x5))]) (
 ∀x8:Int,
 ∀x9:Sx.Rows,
(cpiInv [.lst x5,.bool x6] [.int x8,.lst x9])->
(((x8 < (ln x5))->
(vcCpd0 n x8 x5 x6 x9))/\(¬(x8<(ln x5))->
 Nd (¬((ln (Sx.over (Sx.chunk 2 0 []) 0 x3))<(ln x3))) (
 Ni (ln x9) (
 Nr (ln x9) (
 Nd (cpdRel [.int x0,.str x1,.str x2,.lst x3,.str x4,.lst x5,.bool x6] [.int x0,.str x1,.str x2,.lst (Sx.part (Sx.over (Sx.chunk 2 0 []) 0 x3) 0 (ln x3)),.str x4,.lst x9]) True)))))))))))))))))))))/\(¬(x6=true)->
 ∀x7:Bool,
(((x7=true) ->
((ln x3)=0) ->
 Nd (¬((ln x5)<0)) (
 Ni (ln x5) (
 Nd ((ln x5)<1048577) (
 Nd (¬((ln (List.replicate ((ln x5)).toNat [(.int 0),(.str []),(.str []),(.lst []),(.str []),(.lst [])]:Sx.Rows))<(ln x5))) (
 Nr (ln x5) (
 Ni (ln x5) (
 Nd (cpiInv [.lst x5,.bool x6] [.int 0,.lst (Sx.part (List.replicate ((ln x5)).toNat [(.int 0),(.str []),(.str []),(.lst []),(.str []),(.lst [])]:Sx.Rows) 0 (ln x5))]) (
 ∀x8:Int,
 ∀x9:Sx.Rows,
(cpiInv [.lst x5,.bool x6] [.int x8,.lst x9])->
(((x8 < (ln x5))->
(vcCpd0 n x8 x5 x6 x9))/\(¬(x8<(ln x5))->
 Ni (ln x9) (
 Nr (ln x9) (
 Nd (cpdRel [.int x0,.str x1,.str x2,.lst x3,.str x4,.lst x5,.bool x6] [.int x0,.str x1,.str [],.lst [],.str x4,.lst x9]) True))))))))))))/\(¬(x7=true)->
 Nd ((ln x3)<67108865) (
(((0 < (ln x3))->
 Nd (¬((ln x3)<0)) (
 Ni (ln x3) (
 Ni (ln x3) (
 Nd (¬((ln x5)<0)) (
 Ni (ln x5) (
 Nd ((ln x5)<1048577) (
 Nd (¬((ln (List.replicate ((ln x5)).toNat [(.int 0),(.str []),(.str []),(.lst []),(.str []),(.lst [])]:Sx.Rows))<(ln x5))) (
 Nr (ln x5) (
 Ni (ln x5) (
 Nd (cpiInv [.lst x5,.bool x6] [.int 0,.lst (Sx.part (List.replicate ((ln x5)).toNat [(.int 0),(.str []),(.str []),(.lst []),(.str []),(.lst [])]:Sx.Rows) 0 (ln x5))]) (
 ∀x8:Int,
 ∀x9:Sx.Rows,
(cpiInv [.lst x5,.bool x6] [.int x8,.lst x9])->
(((x8 < (ln x5))->
(vcCpd0 n x8 x5 x6 x9))/\(¬(x8<(ln x5))->
 Ni (ln x3) (
 Nr (ln x3) (
 Ni (ln x9) (
 Nr (ln x9) (
 Nd (cpdRel [.int x0,.str x1,.str x2,.lst x3,.str x4,.lst x5,.bool x6] [.int x0,.str x1,.str [],.lst ((Sx.chunk 2 0 [])++x3),.str x4,.lst x9]) True)))))))))))))))))/\(¬(0<(ln x3))->
 Nd (¬((ln x3)<0)) (
 Ni (ln x3) (
 Nd (¬(0<(ln x3))) (
 Nd (¬((ln x5)<0)) (
 Ni (ln x5) (
 Nd ((ln x5)<1048577) (
 Nd (¬((ln (List.replicate ((ln x5)).toNat [(.int 0),(.str []),(.str []),(.lst []),(.str []),(.lst [])]:Sx.Rows))<(ln x5))) (
 Nr (ln x5) (
 Ni (ln x5) (
 Nd (cpiInv [.lst x5,.bool x6] [.int 0,.lst (Sx.part (List.replicate ((ln x5)).toNat [(.int 0),(.str []),(.str []),(.lst []),(.str []),(.lst [])]:Sx.Rows) 0 (ln x5))]) (
 ∀x8:Int,
 ∀x9:Sx.Rows,
(cpiInv [.lst x5,.bool x6] [.int x8,.lst x9])->
(((x8 < (ln x5))->
(vcCpd0 n x8 x5 x6 x9))/\(¬(x8<(ln x5))->
 Nd (¬((ln (Sx.over (Sx.chunk 2 0 []) 0 x3))<(ln x3))) (
 Ni (ln x9) (
 Nr (ln x9) (
 Nd (cpdRel [.int x0,.str x1,.str x2,.lst x3,.str x4,.lst x5,.bool x6] [.int x0,.str x1,.str [],.lst (Sx.part (Sx.over (Sx.chunk 2 0 []) 0 x3) 0 (ln x3)),.str x4,.lst x9]) True))))))))))))))))))))))
theorem vcCpd_eq (n:Nat):(cvc Go.Proofs.Try.prog U0 (cCpd.below cpdMu (n+1)) (sxF Go.Proofs.Try.prog U0 annsA (E6 Go.Proofs.Try.prog U0 ((43,cCpd.below cpdMu n)::stageA 4) (primsA Go.Proofs.Try.prog)) 400 43)).vc U0 (fun _=>True)=vcCpd n:=by kernel_rfl
end Go.D
