/- The conditions of contracts, as the engine's printer has written them, and that the kernel comes to the same.
  Conditions: none. -/
import Derived.Test.YtcjhhnoaoldcmaaA7
import Derived.Test.YtcjhhnoaoldcmaaRows
import Derived.KernelRfl
set_option linter.unusedVariables false
set_option maxRecDepth 100000
namespace Go.D
open Go Go.Xe Go.Sx
def vcTag :Prop:=
 ∀x0:Int,
(tagPre [.int x0])->
 Nd (¬(((x0:Int).tmod (4))<0)) (
 Nd (((x0:Int).tmod (4))<4) (
 Nd (((x0:Int).tmod (4))<4) (
 Nd (tagRel [.int x0] [.str (cS (Sx.chunk 1 4 [(.str ([97]:List UInt8)),(.str ([98]:List UInt8)),(.str ([112,49]:List UInt8)),(.str ([115,105,120,116,101,101,110,98,121,116,101,115,116,97,103,48]:List UInt8))]) ((x0:Int).tmod (4)) 0)]) True)))
theorem vcTag_eq :(cvc Go.Proofs.Try.prog U0 cTag (sxF Go.Proofs.Try.prog U0 annsB (E6 Go.Proofs.Try.prog U0 (stageB 0) (primsB Go.Proofs.Try.prog)) 400 21)).vc U0 (fun _=>True)=vcTag:=by kernel_rfl
def kAts0 :Sx.Rows:=(Sx.chunk 1 4 [(.str []),(.str ([120]:List UInt8)),(.str ([97,34,98,92,99]:List UInt8)),(.str ([32,126]:List UInt8))])
def vcAts :Prop:=
 ∀x0:Int,
(atsPre [.int x0])->
((((((Sx.shrI .u8 x0 0):Int).tmod (2))=1)->
 Nd (I64 (IntKind.wrap .u8 (Sx.shrI .u8 x0 3))) (
 Nd (¬((((IntKind.wrap .u8 (Sx.shrI .u8 x0 3)):Int).tmod (4))<0)) (
 Nd ((((IntKind.wrap .u8 (Sx.shrI .u8 x0 3)):Int).tmod (4))<4) (
 Nd ((((IntKind.wrap .u8 (Sx.shrI .u8 x0 3)):Int).tmod (4))<4) (
((((((Sx.shrI .u8 x0 1):Int).tmod (2))=1)->
 Nd (I64 (IntKind.wrap .u8 ((Sx.shrI .u8 x0 3)+1))) (
 Nd (¬((((IntKind.wrap .u8 ((Sx.shrI .u8 x0 3)+1)):Int).tmod (4))<0)) (
 Nd ((((IntKind.wrap .u8 ((Sx.shrI .u8 x0 3)+1)):Int).tmod (4))<4) (
 Nd ((((IntKind.wrap .u8 ((Sx.shrI .u8 x0 3)+1)):Int).tmod (4))<4) (
((((((Sx.shrI .u8 x0 2):Int).tmod (2))=1)->
 Nd (I64 (IntKind.wrap .u8 ((Sx.shrI .u8 x0 3)+2))) (
 Nd (¬((((IntKind.wrap .u8 ((Sx.shrI .u8 x0 3)+2)):Int).tmod (4))<0)) (
 Nd ((((IntKind.wrap .u8 ((Sx.shrI .u8 x0 3)+2)):Int).tmod (4))<4) (
 Nd ((((IntKind.wrap .u8 ((Sx.shrI .u8 x0 3)+2)):Int).tmod (4))<4) (
 Nd (atsRel [.int x0] [.lst (Sx.chunk 2 3 [(.str ([99,108,97,115,115]:List UInt8)),(.str (cS kAts0 (((IntKind.wrap .u8 (Sx.shrI .u8 x0 3)):Int).tmod (4)) 0)),(.str ([105,100]:List UInt8)),(.str (cS kAts0 (((IntKind.wrap .u8 ((Sx.shrI .u8 x0 3)+1)):Int).tmod (4)) 0)),(.str ([122,57]:List UInt8)),(.str (cS kAts0 (((IntKind.wrap .u8 ((Sx.shrI .u8 x0 3)+2)):Int).tmod (4)) 0))])]) True)))))/\(¬((((Sx.shrI .u8 x0 2):Int).tmod (2))=1)->
 Nd (atsRel [.int x0] [.lst (Sx.chunk 2 2 [(.str ([99,108,97,115,115]:List UInt8)),(.str (cS kAts0 (((IntKind.wrap .u8 (Sx.shrI .u8 x0 3)):Int).tmod (4)) 0)),(.str ([105,100]:List UInt8)),(.str (cS kAts0 (((IntKind.wrap .u8 ((Sx.shrI .u8 x0 3)+1)):Int).tmod (4)) 0))])]) True)))))))/\(¬((((Sx.shrI .u8 x0 1):Int).tmod (2))=1)->
((((((Sx.shrI .u8 x0 2):Int).tmod (2))=1)->
 Nd (I64 (IntKind.wrap .u8 ((Sx.shrI .u8 x0 3)+2))) (
 Nd (¬((((IntKind.wrap .u8 ((Sx.shrI .u8 x0 3)+2)):Int).tmod (4))<0)) (
 Nd ((((IntKind.wrap .u8 ((Sx.shrI .u8 x0 3)+2)):Int).tmod (4))<4) (
 Nd ((((IntKind.wrap .u8 ((Sx.shrI .u8 x0 3)+2)):Int).tmod (4))<4) (
 Nd (atsRel [.int x0] [.lst (Sx.chunk 2 2 [(.str ([99,108,97,115,115]:List UInt8)),(.str (cS kAts0 (((IntKind.wrap .u8 (Sx.shrI .u8 x0 3)):Int).tmod (4)) 0)),(.str ([122,57]:List UInt8)),(.str (cS kAts0 (((IntKind.wrap .u8 ((Sx.shrI .u8 x0 3)+2)):Int).tmod (4)) 0))])]) True)))))/\(¬((((Sx.shrI .u8 x0 2):Int).tmod (2))=1)->
 Nd (atsRel [.int x0] [.lst (Sx.chunk 2 1 [(.str ([99,108,97,115,115]:List UInt8)),(.str (cS kAts0 (((IntKind.wrap .u8 (Sx.shrI .u8 x0 3)):Int).tmod (4)) 0))])]) True)))))))))/\(¬((((Sx.shrI .u8 x0 0):Int).tmod (2))=1)->
((((((Sx.shrI .u8 x0 1):Int).tmod (2))=1)->
 Nd (I64 (IntKind.wrap .u8 ((Sx.shrI .u8 x0 3)+1))) (
 Nd (¬((((IntKind.wrap .u8 ((Sx.shrI .u8 x0 3)+1)):Int).tmod (4))<0)) (
 Nd ((((IntKind.wrap .u8 ((Sx.shrI .u8 x0 3)+1)):Int).tmod (4))<4) (
 Nd ((((IntKind.wrap .u8 ((Sx.shrI .u8 x0 3)+1)):Int).tmod (4))<4) (
((((((Sx.shrI .u8 x0 2):Int).tmod (2))=1)->
 Nd (I64 (IntKind.wrap .u8 ((Sx.shrI .u8 x0 3)+2))) (
 Nd (¬((((IntKind.wrap .u8 ((Sx.shrI .u8 x0 3)+2)):Int).tmod (4))<0)) (
 Nd ((((IntKind.wrap .u8 ((Sx.shrI .u8 x0 3)+2)):Int).tmod (4))<4) (
 Nd ((((IntKind.wrap .u8 ((Sx.shrI .u8 x0 3)+2)):Int).tmod (4))<4) (
 Nd (atsRel [.int x0] [.lst (Sx.chunk 2 2 [(.str ([105,100]:List UInt8)),(.str (cS kAts0 (((IntKind.wrap .u8 ((Sx.shrI .u8 x0 3)+1)):Int).tmod (4)) 0)),(.str ([122,57]:List UInt8)),(.str (cS kAts0 (((IntKind.wrap .u8 ((Sx.shrI .u8 x0 3)+2)):Int).tmod (4)) 0))])]) True)))))/\(¬((((Sx.shrI .u8 x0 2):Int).tmod (2))=1)->
 Nd (atsRel [.int x0] [.lst (Sx.chunk 2 1 [(.str ([105,100]:List UInt8)),(.str (cS kAts0 (((IntKind.wrap .u8 ((Sx.shrI .u8 x0 3)+1)):Int).tmod (4)) 0))])]) True)))))))/\(¬((((Sx.shrI .u8 x0 1):Int).tmod (2))=1)->
((((((Sx.shrI .u8 x0 2):Int).tmod (2))=1)->
 Nd (I64 (IntKind.wrap .u8 ((Sx.shrI .u8 x0 3)+2))) (
 Nd (¬((((IntKind.wrap .u8 ((Sx.shrI .u8 x0 3)+2)):Int).tmod (4))<0)) (
 Nd ((((IntKind.wrap .u8 ((Sx.shrI .u8 x0 3)+2)):Int).tmod (4))<4) (
 Nd ((((IntKind.wrap .u8 ((Sx.shrI .u8 x0 3)+2)):Int).tmod (4))<4) (
 Nd (atsRel [.int x0] [.lst (Sx.chunk 2 1 [(.str ([122,57]:List UInt8)),(.str (cS kAts0 (((IntKind.wrap .u8 ((Sx.shrI .u8 x0 3)+2)):Int).tmod (4)) 0))])]) True)))))/\(¬((((Sx.shrI .u8 x0 2):Int).tmod (2))=1)->
 Nd (atsRel [.int x0] [.lst []]) True))))))
theorem vcAts_eq :(cvc Go.Proofs.Try.prog U0 cAts (sxF Go.Proofs.Try.prog U0 annsB (E6 Go.Proofs.Try.prog U0 (stageB 0) (primsB Go.Proofs.Try.prog)) 400 22)).vc U0 (fun _=>True)=vcAts:=by kernel_rfl
def kBld0 :Sx.Rows:=(Sx.chunk 1 4 [(.str []),(.str ([120]:List UInt8)),(.str ([104,105,32,34,121,111,117,92]:List UInt8)),(.str ([48]:List UInt8))])
def kBld1 :Sx.Rows:=(Sx.chunk 1 4 [(.str ([107,48]:List UInt8)),(.str ([107,49]:List UInt8)),(.str ([107,50]:List UInt8)),(.str ([107,51]:List UInt8))])
def vcBld (n:Nat):Prop:=
 ∀x0:Sx.Rows,
 ∀x1:Int,
 ∀x2:Int,
((bldPre [.lst x0,.int x1,.int x2])/\bldMu [.lst x0,.int x1,.int x2]<n+1)->
 Nd (blInv [.lst x0,.int x1,.int x2] [.int x1,.lst []]) (
 ∀x3:Int,
 ∀x4:Sx.Rows,
(blInv [.lst x0,.int x1,.int x2] [.int x3,.lst x4])->
(((x3 < (ln x0))->
(((x3 < 19)->
 Nd (¬(x3<0)) (
 Nd (x3<(ln x0)) (
 Nd (I64 (x3+1)) (
((((((cI x0 x3 0):Int).tmod (8))=0)->
 Ni (ln x4) (
 Nr (ln x4) (
 Nd (bldRel [.lst x0,.int x1,.int x2] [.lst x4,.int (x3+1)]) True)))/\(¬((((cI x0 x3 0):Int).tmod (8))=0)->
((((ln x4)=16) ->
 Ni (ln x4) (
 Nr (ln x4) (
 Nd (blInv [.lst x0,.int x1,.int x2] [.int (x3+1),.lst x4]) (
 Nd (blMu [.lst x0,.int x1,.int x2] [.int (x3+1),.lst x4]<blMu [.lst x0,.int x1,.int x2] [.int x3,.lst x4]) True))))/\(¬((ln x4)=16)->
((((((cI x0 x3 0):Int).tmod (8))<3)->
 Nd (¬((((IntKind.wrap .u8 (((cI x0 x3 0):Int).tdiv (8))):Int).tmod (4))<0)) (
 Nd ((((IntKind.wrap .u8 (((cI x0 x3 0):Int).tdiv (8))):Int).tmod (4))<4) (
 Nd ((((IntKind.wrap .u8 (((cI x0 x3 0):Int).tdiv (8))):Int).tmod (4))<4) (
 Ni (ln x4) (
 Nd (((ln x4)+1)<67108865) (
 Nr (ln x4) (
 Ni ((ln x4)+1) (
 Nr ((ln x4)+1) (
 Nd (blInv [.lst x0,.int x1,.int x2] [.int (x3+1),.lst (x4++(Sx.chunk 6 1 [(.int 2),(.str []),(.str []),(.lst []),(.str (cS kBld0 (((IntKind.wrap .u8 (((cI x0 x3 0):Int).tdiv (8))):Int).tmod (4)) 0)),(.lst [])]))]) (
 Nd (blMu [.lst x0,.int x1,.int x2] [.int (x3+1),.lst (x4++(Sx.chunk 6 1 [(.int 2),(.str []),(.str []),(.lst []),(.str (cS kBld0 (((IntKind.wrap .u8 (((cI x0 x3 0):Int).tdiv (8))):Int).tmod (4)) 0)),(.lst [])]))]<blMu [.lst x0,.int x1,.int x2] [.int x3,.lst x4]) True))))))))))/\(¬((((cI x0 x3 0):Int).tmod (8))<3)->
 Nd (tagPre [.int (IntKind.wrap .u8 (((cI x0 x3 0):Int).tdiv (8)))]) (
 ∀x5:List UInt8,
(tagRel [.int (IntKind.wrap .u8 (((cI x0 x3 0):Int).tdiv (8)))] [.str x5])->
 Nd (atsPre [.int (IntKind.wrap .u8 (((cI x0 x3 0):Int).tdiv (2)))]) (
 ∀x6:Sx.Rows,
(atsRel [.int (IntKind.wrap .u8 (((cI x0 x3 0):Int).tdiv (2)))] [.lst x6])->
((((((cI x0 x3 0):Int).tmod (8))=3)->
 Nd (¬((((IntKind.wrap .u8 (((cI x0 x3 0):Int).tdiv (8))):Int).tmod (4))<0)) (
 Nd ((((IntKind.wrap .u8 (((cI x0 x3 0):Int).tdiv (8))):Int).tmod (4))<4) (
 Nd ((((IntKind.wrap .u8 (((cI x0 x3 0):Int).tdiv (8))):Int).tmod (4))<4) (
 Nd (keyInv [.lst x4,.str x5,.str (cS kBld1 (((IntKind.wrap .u8 (((cI x0 x3 0):Int).tdiv (8))):Int).tmod (4)) 0),.lst x6] [.int 0,.int 1,.str x5,.str (cS kBld1 (((IntKind.wrap .u8 (((cI x0 x3 0):Int).tdiv (8))):Int).tmod (4)) 0),.lst x6,.str [],.lst []]) (
 ∀x7:Int,
 ∀x8:Int,
 ∀x9:List UInt8,
 ∀x10:List UInt8,
 ∀x11:Sx.Rows,
 ∀x12:List UInt8,
 ∀x13:Sx.Rows,
(keyInv [.lst x4,.str x5,.str (cS kBld1 (((IntKind.wrap .u8 (((cI x0 x3 0):Int).tdiv (8))):Int).tmod (4)) 0),.lst x6] [.int x7,.int x8,.str x9,.str x10,.lst x11,.str x12,.lst x13])->
(((x7 < (ln x4))->
 Nd (¬(x7<0)) (
 Nd (x7<(ln x4)) (
 Nd (x7<(ln x4)) (
((((cS x4 x7 2)=x10)->
 Nd (I64 (x7+1)) (
 Nd (keyInv [.lst x4,.str x5,.str (cS kBld1 (((IntKind.wrap .u8 (((cI x0 x3 0):Int).tdiv (8))):Int).tmod (4)) 0),.lst x6] [.int (x7+1),.int x8,.str x9,.str [],.lst x11,.str x12,.lst x13]) (
 Nd (keyMu [.lst x4,.str x5,.str (cS kBld1 (((IntKind.wrap .u8 (((cI x0 x3 0):Int).tdiv (8))):Int).tmod (4)) 0),.lst x6] [.int (x7+1),.int x8,.str x9,.str [],.lst x11,.str x12,.lst x13]<keyMu [.lst x4,.str x5,.str (cS kBld1 (((IntKind.wrap .u8 (((cI x0 x3 0):Int).tdiv (8))):Int).tmod (4)) 0),.lst x6] [.int x7,.int x8,.str x9,.str x10,.lst x11,.str x12,.lst x13]) True)))/\(¬((cS x4 x7 2)=x10)->
 Nd (I64 (x7+1)) (
 Nd (keyInv [.lst x4,.str x5,.str (cS kBld1 (((IntKind.wrap .u8 (((cI x0 x3 0):Int).tdiv (8))):Int).tmod (4)) 0),.lst x6] [.int (x7+1),.int x8,.str x9,.str x10,.lst x11,.str x12,.lst x13]) (
 Nd (keyMu [.lst x4,.str x5,.str (cS kBld1 (((IntKind.wrap .u8 (((cI x0 x3 0):Int).tdiv (8))):Int).tmod (4)) 0),.lst x6] [.int (x7+1),.int x8,.str x9,.str x10,.lst x11,.str x12,.lst x13]<keyMu [.lst x4,.str x5,.str (cS kBld1 (((IntKind.wrap .u8 (((cI x0 x3 0):Int).tdiv (8))):Int).tmod (4)) 0),.lst x6] [.int x7,.int x8,.str x9,.str x10,.lst x11,.str x12,.lst x13]) True))))))))/\(¬(x7<(ln x4))->
(((x2 < 5)->
 Nd (I64 (x2+1)) (
 Nd ((bldPre [.lst x0,.int (x3+1),.int (x2+1)])/\bldMu [.lst x0,.int (x3+1),.int (x2+1)]<n) (
 ∀x14:Sx.Rows,
 ∀x15:Int,
(bldRel [.lst x0,.int (x3+1),.int (x2+1)] [.lst x14,.int x15])->
 Ni (ln x4) (
 Nd (((ln x4)+1)<67108865) (
 Nr (ln x4) (
 Ni ((ln x4)+1) (
 Nr ((ln x4)+1) (
 Nd (blInv [.lst x0,.int x1,.int x2] [.int x15,.lst (x4++(Sx.chunk 6 1 [(.int x8),(.str x9),(.str x10),(.lst x11),(.str x12),(.lst x14)]))]) (
 Nd (blMu [.lst x0,.int x1,.int x2] [.int x15,.lst (x4++(Sx.chunk 6 1 [(.int x8),(.str x9),(.str x10),(.lst x11),(.str x12),(.lst x14)]))]<blMu [.lst x0,.int x1,.int x2] [.int x3,.lst x4]) True)))))))))/\(¬(x2<5)->
 Ni (ln x4) (
 Nd (((ln x4)+1)<67108865) (
 Nr (ln x4) (
 Ni ((ln x4)+1) (
 Nr ((ln x4)+1) (
 Nd (blInv [.lst x0,.int x1,.int x2] [.int (x3+1),.lst (x4++(Sx.chunk 6 1 [(.int x8),(.str x9),(.str x10),(.lst x11),(.str x12),(.lst x13)]))]) (
 Nd (blMu [.lst x0,.int x1,.int x2] [.int (x3+1),.lst (x4++(Sx.chunk 6 1 [(.int x8),(.str x9),(.str x10),(.lst x11),(.str x12),(.lst x13)]))]<blMu [.lst x0,.int x1,.int x2] [.int x3,.lst x4]) True)))))))))))))))/\(¬((((cI x0 x3 0):Int).tmod (8))=3)->
(((x2 < 5)->
 Nd (I64 (x2+1)) (
 Nd ((bldPre [.lst x0,.int (x3+1),.int (x2+1)])/\bldMu [.lst x0,.int (x3+1),.int (x2+1)]<n) (
 ∀x7:Sx.Rows,
 ∀x8:Int,
(bldRel [.lst x0,.int (x3+1),.int (x2+1)] [.lst x7,.int x8])->
 Ni (ln x4) (
 Nd (((ln x4)+1)<67108865) (
 Nr (ln x4) (
 Ni ((ln x4)+1) (
 Nr ((ln x4)+1) (
 Nd (blInv [.lst x0,.int x1,.int x2] [.int x8,.lst (x4++(Sx.chunk 6 1 [(.int 1),(.str x5),(.str []),(.lst x6),(.str []),(.lst x7)]))]) (
 Nd (blMu [.lst x0,.int x1,.int x2] [.int x8,.lst (x4++(Sx.chunk 6 1 [(.int 1),(.str x5),(.str []),(.lst x6),(.str []),(.lst x7)]))]<blMu [.lst x0,.int x1,.int x2] [.int x3,.lst x4]) True)))))))))/\(¬(x2<5)->
 Ni (ln x4) (
 Nd (((ln x4)+1)<67108865) (
 Nr (ln x4) (
 Ni ((ln x4)+1) (
 Nr ((ln x4)+1) (
 Nd (blInv [.lst x0,.int x1,.int x2] [.int (x3+1),.lst (x4++(Sx.chunk 6 1 [(.int 1),(.str x5),(.str []),(.lst x6),(.str []),(.lst [])]))]) (
 Nd (blMu [.lst x0,.int x1,.int x2] [.int (x3+1),.lst (x4++(Sx.chunk 6 1 [(.int 1),(.str x5),(.str []),(.lst x6),(.str []),(.lst [])]))]<blMu [.lst x0,.int x1,.int x2] [.int x3,.lst x4]) True))))))))))))))))))))))/\(¬(x3<19)->
 Ni (ln x4) (
 Nr (ln x4) (
 Nd (bldRel [.lst x0,.int x1,.int x2] [.lst x4,.int x3]) True)))))/\(¬(x3<(ln x0))->
 Ni (ln x4) (
 Nr (ln x4) (
 Nd (bldRel [.lst x0,.int x1,.int x2] [.lst x4,.int x3]) True)))))
theorem vcBld_eq (n:Nat):(cvc Go.Proofs.Try.prog U0 (cBld.below bldMu (n+1)) (sxF Go.Proofs.Try.prog U0 annsB (E6 Go.Proofs.Try.prog U0 ((23,cBld.below bldMu n)::stageB 1) (primsB Go.Proofs.Try.prog)) 400 23)).vc U0 (fun _=>True)=vcBld n:=by kernel_rfl
def vcTree :Prop:=
 ∀x0:Int,
 ∀x1:Int,
 ∀x2:Sx.Rows,
(treePre [.int x0,.int x1,.lst x2])->
 Nd (tagPre [.int x0]) (
 ∀x3:List UInt8,
(tagRel [.int x0] [.str x3])->
 Nd (atsPre [.int x1]) (
 ∀x4:Sx.Rows,
(atsRel [.int x1] [.lst x4])->
(((((x1 : Int).tmod (3))=1)->
 Nd (bldPre [.lst x2,.int 0,.int 2]) (
 ∀x5:Sx.Rows,
 ∀x6:Int,
(bldRel [.lst x2,.int 0,.int 2] [.lst x5,.int x6])->
 Nd (treeRel [.int x0,.int x1,.lst x2] [.int 1,.str x3,.str ([114,111,111,116]:List UInt8),.lst x4,.str [],.lst x5]) True))/\(¬(((x1:Int).tmod (3))=1)->
 Nd (bldPre [.lst x2,.int 0,.int 2]) (
 ∀x5:Sx.Rows,
 ∀x6:Int,
(bldRel [.lst x2,.int 0,.int 2] [.lst x5,.int x6])->
 Nd (treeRel [.int x0,.int x1,.lst x2] [.int 1,.str x3,.str [],.lst x4,.str [],.lst x5]) True)))))
theorem vcTree_eq :(cvc Go.Proofs.Try.prog U0 cTree (sxF Go.Proofs.Try.prog U0 annsB (E6 Go.Proofs.Try.prog U0 (stageB 2) (primsB Go.Proofs.Try.prog)) 400 6)).vc U0 (fun _=>True)=vcTree:=by kernel_rfl
end Go.D
