/- The conditions of contracts, as the engine's printer has written them, and that the kernel comes to the same.
  Conditions: none. -/
import Derived.Test.YtcjhhnoaoldcmaaE1
import Derived.Test.YtcjhhnoaoldcmaaRows
import Derived.KernelRfl
set_option linter.unusedVariables false
set_option maxRecDepth 100000
namespace Go.D
open Go Go.Xe Go.Sx
open Go.C36 (row A2 lis cLong cRlong longPre longRel rlongPre rlongRel)
def vcDm :Prop:=
 ∀x0:Int,
 ∀x1:Int,
 ∀x2:Sx.Rows,
 ∀x3:Int,
 ∀x4:Int,
 ∀x5:Sx.Rows,
(dmPre [.int x0,.int x1,.lst x2,.int x3,.int x4,.lst x5])->
 Nd (treePre [.int x0,.int x1,.lst x2]) (
 ∀x6:Int,
 ∀x7:List UInt8,
 ∀x8:List UInt8,
 ∀x9:Sx.Rows,
 ∀x10:List UInt8,
 ∀x11:Sx.Rows,
(treeRel [.int x0,.int x1,.lst x2] [.int x6,.str x7,.str x8,.lst x9,.str x10,.lst x11])->
 Nd (treePre [.int x3,.int x4,.lst x5]) (
 ∀x12:Int,
 ∀x13:List UInt8,
 ∀x14:List UInt8,
 ∀x15:Sx.Rows,
 ∀x16:List UInt8,
 ∀x17:Sx.Rows,
(treeRel [.int x3,.int x4,.lst x5] [.int x12,.str x13,.str x14,.lst x15,.str x16,.lst x17])->
 Nd (dmtPre [.int x6,.str x7,.str x8,.lst x9,.str x10,.lst x11,.int x12,.str x7,.str x14,.lst x15,.str x16,.lst x17]) (
 ∀x18:Sx.Rows,
 ∀x19:Int,
(dmtRel [.int x6,.str x7,.str x8,.lst x9,.str x10,.lst x11,.int x12,.str x7,.str x14,.lst x15,.str x16,.lst x17] [.lst x18,.int x19])->
 Nd (ddfPre [.int x6,.str x7,.str x8,.lst x9,.str x10,.lst x11,.int x12,.str x7,.str x14,.lst x15,.str x16,.lst x17]) (
 ∀x20:Sx.Rows,
 ∀x21:Int,
(ddfRel [.int x6,.str x7,.str x8,.lst x9,.str x10,.lst x11,.int x12,.str x7,.str x14,.lst x15,.str x16,.lst x17] [.lst x20,.int x21])->
 Nd (rmatPre [.lst x11,.lst x17]) (
 ∀x22:Sx.Rows,
(rmatRel [.lst x11,.lst x17] [.lst x22])->
 Nd (stayPre [.lst x22]) (
 ∀x23:Sx.Rows,
(stayRel [.lst x22] [.lst x23])->
 Nd (rstayPre [.lst x22]) (
 ∀x24:Sx.Rows,
(rstayRel [.lst x22] [.lst x24])->
 Nd (I64 (x19+x21)) (
((((x19+x21)=0) ->
((((ln x18)=(ln x22))->
((((ln x18)=(ln x18))->
((((ln x23)=(ln x22))->
((((ln x23)=(ln x23))->
 Nd (wnInv [.lst x22,.lst x24] [.int 0,.int 0,.int 0]) (
 ∀x25:Int,
 ∀x26:Int,
 ∀x27:Int,
(wnInv [.lst x22,.lst x24] [.int x25,.int x26,.int x27])->
(((x25 < (ln x22))->
 Nd (¬(x25<0)) (
 Nd (x25<(ln x18)) (
 Nd (¬(x25<0)) (
 Nd (x25<(ln x22)) (
((((cI x18 x25 0)=(cI x22 x25 0))->
 Nd (¬(x25<0)) (
 Nd (x25<(ln x23)) (
 Nd (¬(x25<0)) (
 Nd (x25<(ln x24)) (
(((((cB x23 x25 0)==(decide ((cI x24 x25 0)=1)))=true)->
 Nd (¬(x25<0)) (
 Nd (x25<(ln x22)) (
((((cI x22 x25 0)<0)->
 Nd (I64 (x25+1)) (
 Nd (wnInv [.lst x22,.lst x24] [.int (x25+1),.int x26,.int x27]) (
 Nd (wnMu [.lst x22,.lst x24] [.int (x25+1),.int x26,.int x27]<wnMu [.lst x22,.lst x24] [.int x25,.int x26,.int x27]) True)))/\(¬((cI x22 x25 0)<0)->
 Nd (I64 (x26+1)) (
 Nd (¬(x25<0)) (
 Nd (x25<(ln x24)) (
 Nd (I64 (x27+(cI x24 x25 0))) (
 Nd (I64 (x25+1)) (
 Nd (wnInv [.lst x22,.lst x24] [.int (x25+1),.int (x26+1),.int (x27+(cI x24 x25 0))]) (
 Nd (wnMu [.lst x22,.lst x24] [.int (x25+1),.int (x26+1),.int (x27+(cI x24 x25 0))]<wnMu [.lst x22,.lst x24] [.int x25,.int x26,.int x27]) True)))))))))))/\(¬(((cB x23 x25 0)==(decide ((cI x24 x25 0)=1)))=true)->
 Nd (dmRel [.int x0,.int x1,.lst x2,.int x3,.int x4,.lst x5] [.bool false]) True)))))))/\(¬((cI x18 x25 0)=(cI x22 x25 0))->
 Nd (dmRel [.int x0,.int x1,.lst x2,.int x3,.int x4,.lst x5] [.bool false]) True)))))))/\(¬(x25<(ln x22))->
 Nd (cuInv [.lst x20] [.int 0,.int 0,.int 0,.int 0,.int 0,.int 0,.int 0,.int 0,.int 0]) (
 ∀x28:Int,
 ∀x29:Int,
 ∀x30:Int,
 ∀x31:Int,
 ∀x32:Int,
 ∀x33:Int,
 ∀x34:Int,
 ∀x35:Int,
 ∀x36:Int,
(cuInv [.lst x20] [.int x28,.int x29,.int x30,.int x31,.int x32,.int x33,.int x34,.int x35,.int x36])->
(((x28 < (ln x20))->
 Nd (¬(x28<0)) (
 Nd (x28<(ln x20)) (
((((ln (cL x20 x28 1))=0)->
 Nd (¬(x28<0)) (
 Nd (x28<(ln x20)) (
 Nd (¬((((cI x20 x28 0):Int).tmod (8))<0)) (
 Nd ((((cI x20 x28 0):Int).tmod (8))<8) (
 Nd ((((cI x20 x28 0):Int).tmod (8))<8) (
 Nd (I64 ((cI (Sx.chunk 1 8 [(.int x29),(.int x30),(.int x31),(.int x32),(.int x33),(.int x34),(.int x35),(.int x36)]) (((cI x20 x28 0):Int).tmod (8)) 0)+1)) (
 Nd (¬((((cI x20 x28 0):Int).tmod (8))<0)) (
 Nd ((((cI x20 x28 0):Int).tmod (8))<8) (
 Nd ((((cI x20 x28 0):Int).tmod (8))<8) (
 Nd (I64 (x28+1)) (
 Nd (cuInv [.lst x20] [.int (x28+1),.int (cI (Sx.over (Sx.chunk 1 8 [(.int x29),(.int x30),(.int x31),(.int x32),(.int x33),(.int x34),(.int x35),(.int x36)]) (((cI x20 x28 0):Int).tmod (8)) (Sx.chunk 1 1 [(.int ((cI (Sx.chunk 1 8 [(.int x29),(.int x30),(.int x31),(.int x32),(.int x33),(.int x34),(.int x35),(.int x36)]) (((cI x20 x28 0):Int).tmod (8)) 0)+1))])) 0 0),.int (cI (Sx.over (Sx.chunk 1 8 [(.int x29),(.int x30),(.int x31),(.int x32),(.int x33),(.int x34),(.int x35),(.int x36)]) (((cI x20 x28 0):Int).tmod (8)) (Sx.chunk 1 1 [(.int ((cI (Sx.chunk 1 8 [(.int x29),(.int x30),(.int x31),(.int x32),(.int x33),(.int x34),(.int x35),(.int x36)]) (((cI x20 x28 0):Int).tmod (8)) 0)+1))])) 1 0),.int (cI (Sx.over (Sx.chunk 1 8 [(.int x29),(.int x30),(.int x31),(.int x32),(.int x33),(.int x34),(.int x35),(.int x36)]) (((cI x20 x28 0):Int).tmod (8)) (Sx.chunk 1 1 [(.int ((cI (Sx.chunk 1 8 [(.int x29),(.int x30),(.int x31),(.int x32),(.int x33),(.int x34),(.int x35),(.int x36)]) (((cI x20 x28 0):Int).tmod (8)) 0)+1))])) 2 0),.int (cI (Sx.over (Sx.chunk 1 8 [(.int x29),(.int x30),(.int x31),(.int x32),(.int x33),(.int x34),(.int x35),(.int x36)]) (((cI x20 x28 0):Int).tmod (8)) (Sx.chunk 1 1 [(.int ((cI (Sx.chunk 1 8 [(.int x29),(.int x30),(.int x31),(.int x32),(.int x33),(.int x34),(.int x35),(.int x36)]) (((cI x20 x28 0):Int).tmod (8)) 0)+1))])) 3 0),.int (cI (Sx.over (Sx.chunk 1 8 [(.int x29),(.int x30),(.int x31),(.int x32),(.int x33),(.int x34),(.int x35),(.int x36)]) (((cI x20 x28 0):Int).tmod (8)) (Sx.chunk 1 1 [(.int ((cI (Sx.chunk 1 8 [(.int x29),(.int x30),(.int x31),(.int x32),(.int x33),(.int x34),(.int x35),(.int x36)]) (((cI x20 x28 0):Int).tmod (8)) 0)+1))])) 4 0),.int (cI (Sx.over (Sx.chunk 1 8 [(.int x29),(.int x30),(.int x31),(.int x32),(.int x33),(.int x34),(.int x35),(.int x36)]) (((cI x20 x28 0):Int).tmod (8)) (Sx.chunk 1 1 [(.int ((cI (Sx.chunk 1 8 [(.int x29),(.int x30),(.int x31),(.int x32),(.int x33),(.int x34),(.int x35),(.int x36)]) (((cI x20 x28 0):Int).tmod (8)) 0)+1))])) 5 0),.int (cI (Sx.over (Sx.chunk 1 8 [(.int x29),(.int x30),(.int x31),(.int x32),(.int x33),(.int x34),(.int x35),(.int x36)]) (((cI x20 x28 0):Int).tmod (8)) (Sx.chunk 1 1 [(.int ((cI (Sx.chunk 1 8 [(.int x29),(.int x30),(.int x31),(.int x32),(.int x33),(.int x34),(.int x35),(.int x36)]) (((cI x20 x28 0):Int).tmod (8)) 0)+1))])) 6 0),.int (cI (Sx.over (Sx.chunk 1 8 [(.int x29),(.int x30),(.int x31),(.int x32),(.int x33),(.int x34),(.int x35),(.int x36)]) (((cI x20 x28 0):Int).tmod (8)) (Sx.chunk 1 1 [(.int ((cI (Sx.chunk 1 8 [(.int x29),(.int x30),(.int x31),(.int x32),(.int x33),(.int x34),(.int x35),(.int x36)]) (((cI x20 x28 0):Int).tmod (8)) 0)+1))])) 7 0)]) (
 Nd (cuMu [.lst x20] [.int (x28+1),.int (cI (Sx.over (Sx.chunk 1 8 [(.int x29),(.int x30),(.int x31),(.int x32),(.int x33),(.int x34),(.int x35),(.int x36)]) (((cI x20 x28 0):Int).tmod (8)) (Sx.chunk 1 1 [(.int ((cI (Sx.chunk 1 8 [(.int x29),(.int x30),(.int x31),(.int x32),(.int x33),(.int x34),(.int x35),(.int x36)]) (((cI x20 x28 0):Int).tmod (8)) 0)+1))])) 0 0),.int (cI (Sx.over (Sx.chunk 1 8 [(.int x29),(.int x30),(.int x31),(.int x32),(.int x33),(.int x34),(.int x35),(.int x36)]) (((cI x20 x28 0):Int).tmod (8)) (Sx.chunk 1 1 [(.int ((cI (Sx.chunk 1 8 [(.int x29),(.int x30),(.int x31),(.int x32),(.int x33),(.int x34),(.int x35),(.int x36)]) (((cI x20 x28 0):Int).tmod (8)) 0)+1))])) 1 0),.int (cI (Sx.over (Sx.chunk 1 8 [(.int x29),(.int x30),(.int x31),(.int x32),(.int x33),(.int x34),(.int x35),(.int x36)]) (((cI x20 x28 0):Int).tmod (8)) (Sx.chunk 1 1 [(.int ((cI (Sx.chunk 1 8 [(.int x29),(.int x30),(.int x31),(.int x32),(.int x33),(.int x34),(.int x35),(.int x36)]) (((cI x20 x28 0):Int).tmod (8)) 0)+1))])) 2 0),.int (cI (Sx.over (Sx.chunk 1 8 [(.int x29),(.int x30),(.int x31),(.int x32),(.int x33),(.int x34),(.int x35),(.int x36)]) (((cI x20 x28 0):Int).tmod (8)) (Sx.chunk 1 1 [(.int ((cI (Sx.chunk 1 8 [(.int x29),(.int x30),(.int x31),(.int x32),(.int x33),(.int x34),(.int x35),(.int x36)]) (((cI x20 x28 0):Int).tmod (8)) 0)+1))])) 3 0),.int (cI (Sx.over (Sx.chunk 1 8 [(.int x29),(.int x30),(.int x31),(.int x32),(.int x33),(.int x34),(.int x35),(.int x36)]) (((cI x20 x28 0):Int).tmod (8)) (Sx.chunk 1 1 [(.int ((cI (Sx.chunk 1 8 [(.int x29),(.int x30),(.int x31),(.int x32),(.int x33),(.int x34),(.int x35),(.int x36)]) (((cI x20 x28 0):Int).tmod (8)) 0)+1))])) 4 0),.int (cI (Sx.over (Sx.chunk 1 8 [(.int x29),(.int x30),(.int x31),(.int x32),(.int x33),(.int x34),(.int x35),(.int x36)]) (((cI x20 x28 0):Int).tmod (8)) (Sx.chunk 1 1 [(.int ((cI (Sx.chunk 1 8 [(.int x29),(.int x30),(.int x31),(.int x32),(.int x33),(.int x34),(.int x35),(.int x36)]) (((cI x20 x28 0):Int).tmod (8)) 0)+1))])) 5 0),.int (cI (Sx.over (Sx.chunk 1 8 [(.int x29),(.int x30),(.int x31),(.int x32),(.int x33),(.int x34),(.int x35),(.int x36)]) (((cI x20 x28 0):Int).tmod (8)) (Sx.chunk 1 1 [(.int ((cI (Sx.chunk 1 8 [(.int x29),(.int x30),(.int x31),(.int x32),(.int x33),(.int x34),(.int x35),(.int x36)]) (((cI x20 x28 0):Int).tmod (8)) 0)+1))])) 6 0),.int (cI (Sx.over (Sx.chunk 1 8 [(.int x29),(.int x30),(.int x31),(.int x32),(.int x33),(.int x34),(.int x35),(.int x36)]) (((cI x20 x28 0):Int).tmod (8)) (Sx.chunk 1 1 [(.int ((cI (Sx.chunk 1 8 [(.int x29),(.int x30),(.int x31),(.int x32),(.int x33),(.int x34),(.int x35),(.int x36)]) (((cI x20 x28 0):Int).tmod (8)) 0)+1))])) 7 0)]<cuMu [.lst x20] [.int x28,.int x29,.int x30,.int x31,.int x32,.int x33,.int x34,.int x35,.int x36]) True))))))))))))/\(¬((ln (cL x20 x28 1))=0)->
 Nd (I64 (x28+1)) (
 Nd (cuInv [.lst x20] [.int (x28+1),.int x29,.int x30,.int x31,.int x32,.int x33,.int x34,.int x35,.int x36]) (
 Nd (cuMu [.lst x20] [.int (x28+1),.int x29,.int x30,.int x31,.int x32,.int x33,.int x34,.int x35,.int x36]<cuMu [.lst x20] [.int x28,.int x29,.int x30,.int x31,.int x32,.int x33,.int x34,.int x35,.int x36]) True)))))))/\(¬(x28<(ln x20))->
 Nd (I64 ((ln x11)-x26)) (
(((x33=((ln x11) -x26))->
 Nd (I64 ((ln x17)-x26)) (
(((x34=((ln x17) -x26))->
 Nd (I64 (x26-x27)) (
(((x35=(x26 - x27))->
(((x6=x12) ->
(((x7=x7) ->
 Nd (livesPre []) (
 ∀x37:Bool,
(livesRel [] [.bool x37])->
 Nd (dmRel [.int x0,.int x1,.lst x2,.int x3,.int x4,.lst x5] [.bool x37]) True))/\(¬(x7=x7)->
 Nd (dmRel [.int x0,.int x1,.lst x2,.int x3,.int x4,.lst x5] [.bool false]) True)))/\(¬(x6=x12)->
 Nd (dmRel [.int x0,.int x1,.lst x2,.int x3,.int x4,.lst x5] [.bool false]) True)))/\(¬(x35=(x26-x27))->
 Nd (dmRel [.int x0,.int x1,.lst x2,.int x3,.int x4,.lst x5] [.bool false]) True))))/\(¬(x34=((ln x17)-x26))->
 Nd (dmRel [.int x0,.int x1,.lst x2,.int x3,.int x4,.lst x5] [.bool false]) True))))/\(¬(x33=((ln x11)-x26))->
 Nd (dmRel [.int x0,.int x1,.lst x2,.int x3,.int x4,.lst x5] [.bool false]) True))))))))))/\(¬((ln x23)=(ln x23))->
 Nd (dmRel [.int x0,.int x1,.lst x2,.int x3,.int x4,.lst x5] [.bool false]) True)))/\(¬((ln x23)=(ln x22))->
 Nd (dmRel [.int x0,.int x1,.lst x2,.int x3,.int x4,.lst x5] [.bool false]) True)))/\(¬((ln x18)=(ln x18))->
 Nd (dmRel [.int x0,.int x1,.lst x2,.int x3,.int x4,.lst x5] [.bool false]) True)))/\(¬((ln x18)=(ln x22))->
 Nd (dmRel [.int x0,.int x1,.lst x2,.int x3,.int x4,.lst x5] [.bool false]) True)))/\(¬((x19+x21)=0)->
 Nd (dmRel [.int x0,.int x1,.lst x2,.int x3,.int x4,.lst x5] [.bool false]) True))))))))))
theorem vcDm_eq :(cvc Go.Proofs.Try.prog U0 cDm (sxF Go.Proofs.Try.prog U0 annsE (E6 Go.Proofs.Try.prog U0 (stageE 0) (primsE Go.Proofs.Try.prog)) 400 3)).vc U0 (fun _=>True)=vcDm:=by kernel_rfl
end Go.D
