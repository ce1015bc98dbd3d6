/- The conditions of contracts, as the engine's printer has written them, and that the kernel comes to the same.
  Conditions: none. -/
import Derived.Test.YtdhbegidnfapjaaA1
import Derived.Test.YtdhbegidnfapjaaRows
import Derived.KernelRfl
set_option linter.unusedVariables false
set_option maxRecDepth 100000
namespace Go.C15
open Go Go.Xe Go.Sx
def vcNever0 (x1 : Sx.Rows) (x7 : Int) (x8 : Int) (x13 : Int) : Prop :=
 Nd ((¬ ((x13 + 1) < (-9223372036854775808))) ∧ ((x13 + 1) < 9223372036854775808)) (
 Nd (nevBInv [.lst x1, .int x7, .int x8] [.int (x13 + 1)]) (
 Nd (nevBMu [.lst x1, .int x7, .int x8] [.int (x13 + 1)] < nevBMu [.lst x1, .int x7, .int x8] [.int x13]) (
 True)))
def vcNever1 (x0 : Sx.Rows) (x1 : Sx.Rows) (x2 : Sx.Rows) (x3 : Int) (x4 : Sx.Rows) (x5 : Int) (x6 : Int) (x7 : Int) (x8 : Int) (x10 : Sx.Rows) (x11 : Int) (x12 : Int) : Prop :=
 Nd (nevBInv [.lst x1, .int x7, .int x8] [.int 0]) (
 ∀ x13 : Int,
(nevBInv [.lst x1, .int x7, .int x8] [.int x13]) →
(((x13 < (x1.length : Int)) →
 Nd (¬ (x13 < 0)) (
 Nd (x13 < (x1.length : Int)) (
 Nd (x13 < (x1.length : Int)) (
((((Sx.cellAt x1 x13 0).toInt = x7) →
((((Sx.cellAt x1 x13 1).toInt = x8) →
 Nd (neverRel [.lst x0] [.bool false]) (
 True)) ∧ (¬ ((Sx.cellAt x1 x13 1).toInt = x8) →
(vcNever0 x1 x7 x8 x13)))) ∧ (¬ ((Sx.cellAt x1 x13 0).toInt = x7) →
(vcNever0 x1 x7 x8 x13))))))) ∧ (¬ (x13 < (x1.length : Int)) →
 Nd (¬ ((x1.length : Int) < (x1.length : Int))) (
 Nd (((x1.length : Int) + 1) < 67108865) (
 Nd ((x1.length : Int) = (x1.length : Int)) (
 Nd ((¬ ((x3 + 1) < (-9223372036854775808))) ∧ ((x3 + 1) < 9223372036854775808)) (
 Nd (¬ (((x1.length : Int) + 1) < ((x1.length : Int) + 1))) (
 Nd (((x1.length : Int) + 1) = ((x1.length : Int) + 1)) (
 Nd (¬ ((x2.length : Int) < (x2.length : Int))) (
 Nd ((x2.length : Int) = (x2.length : Int)) (
 Nd (¬ ((x10.length : Int) < (x10.length : Int))) (
 Nd ((x10.length : Int) = (x10.length : Int)) (
 Nd (nevInv [] [.lst (x1 ++ (Sx.chunk 2 1 [(.int x7), (.int x8)])), .lst x2, .int (x3 + 1), .lst x10, .int x11, .int x12]) (
 Nd (nevMu [] [.lst (x1 ++ (Sx.chunk 2 1 [(.int x7), (.int x8)])), .lst x2, .int (x3 + 1), .lst x10, .int x11, .int x12] < nevMu [] [.lst x1, .lst x2, .int x3, .lst x4, .int x5, .int x6]) (
 True)))))))))))))))
def vcNever2 (x0 : Sx.Rows) (x1 : Sx.Rows) (x2 : Sx.Rows) (x4 : Sx.Rows) (x5 : Int) (x6 : Int) : Prop :=
 Nd (x6 = ((x1.length : Int) - (x2.length : Int))) (
 Nd (x6 = ((x1.length : Int) - (x2.length : Int))) (
 Nd (x6 = ((x1.length : Int) - (x2.length : Int))) (
 Nd (¬ ((x4.length : Int) < (x4.length : Int))) (
 Nd ((x4.length : Int) = (x4.length : Int)) (
 Nd (waitPre [.lst x4, .int x5, .int x6]) (
 ∀ x7 : Sx.Rows,
 ∀ x8 : Sx.Rows,
 ∀ x9 : Int,
 ∀ x10 : Int,
(waitRel [.lst x4, .int x5, .int x6] [.lst x7, .lst x8, .int x9, .int x10]) →
 Nd (x6 = ((x1.length : Int) - (x2.length : Int))) (
 Nd (x6 = ((x1.length : Int) - (x2.length : Int))) (
 Nd ((¬ ((x6 + (x7.length : Int)) < (-9223372036854775808))) ∧ ((x6 + (x7.length : Int)) < 9223372036854775808)) (
 Nd (x6 = ((x1.length : Int) - (x2.length : Int))) (
 Nd (x6 = ((x1.length : Int) - (x2.length : Int))) (
 Nd (x6 = ((x1.length : Int) - (x2.length : Int))) (
 Nd (x6 = ((x1.length : Int) - (x2.length : Int))) (
((((x6 + (x7.length : Int)) = (x8.length : Int)) →
 Nd (livesPre []) (
 ∀ x11 : Bool,
(livesRel [] [.bool x11]) →
 Nd ((x6 + (x7.length : Int)) = (x8.length : Int)) (
 Nd (neverRel [.lst x0] [.bool x11]) (
 True)))) ∧ (¬ ((x6 + (x7.length : Int)) = (x8.length : Int)) →
 Nd (¬ ((x6 + (x7.length : Int)) = (x8.length : Int))) (
 Nd (neverRel [.lst x0] [.bool false]) (
 True)))))))))))))))))
def vcNever3 (x0 : Sx.Rows) (x1 : Sx.Rows) (x2 : Sx.Rows) (x6 : Int) : Prop :=
 Nd (¬ (x6 = ((x1.length : Int) - (x2.length : Int)))) (
 Nd (¬ (x6 = ((x1.length : Int) - (x2.length : Int)))) (
 Nd (¬ (x6 = ((x1.length : Int) - (x2.length : Int)))) (
 Nd (¬ (x6 = ((x1.length : Int) - (x2.length : Int)))) (
 Nd (¬ (x6 = ((x1.length : Int) - (x2.length : Int)))) (
 Nd (¬ (x6 = ((x1.length : Int) - (x2.length : Int)))) (
 Nd (¬ (x6 = ((x1.length : Int) - (x2.length : Int)))) (
 Nd (¬ (x6 = ((x1.length : Int) - (x2.length : Int)))) (
 Nd (¬ (x6 = ((x1.length : Int) - (x2.length : Int)))) (
 Nd (neverRel [.lst x0] [.bool false]) (
 True))))))))))
/-- What the contract of 'never' asks for. -/
def vcNever : Prop :=
 ∀ x0 : Sx.Rows,
(neverPre [.lst x0]) →
 Nd (nevInv [] [.lst ([] : Sx.Rows), .lst ([] : Sx.Rows), .int 0, .lst ([] : Sx.Rows), .int 0, .int 0]) (
 ∀ x1 : Sx.Rows,
 ∀ x2 : Sx.Rows,
 ∀ x3 : Int,
 ∀ x4 : Sx.Rows,
 ∀ x5 : Int,
 ∀ x6 : Int,
(nevInv [] [.lst x1, .lst x2, .int x3, .lst x4, .int x5, .int x6]) →
(((x3 < (x0.length : Int)) →
 Nd (x3 < (x0.length : Int)) (
 Nd (x3 < (x0.length : Int)) (
(((x3 < 80) →
 Nd (¬ (x3 < 0)) (
 Nd (x3 < (x0.length : Int)) (
((((((Sx.cellAt x0 x3 0).toInt : Int).tmod (2)) = 0) →
 Nd ((((Sx.cellAt x0 x3 0).toInt : Int).tmod (2)) = 0) (
 Nd ((((Sx.cellAt x0 x3 0).toInt : Int).tmod (2)) = 0) (
 Nd ((((Sx.cellAt x0 x3 0).toInt : Int).tmod (2)) = 0) (
 Nd (¬ ((x4.length : Int) < (x4.length : Int))) (
 Nd ((x4.length : Int) = (x4.length : Int)) (
 Nd (takePre [.int x3, .lst x4, .int x5, .int x6]) (
 ∀ x7 : Int,
 ∀ x8 : Int,
 ∀ x9 : Int,
 ∀ x10 : Sx.Rows,
 ∀ x11 : Int,
 ∀ x12 : Int,
(takeRel [.int x3, .lst x4, .int x5, .int x6] [.int x7, .int x8, .int x9, .lst x10, .int x11, .int x12]) →
(((x9 = 0) →
(vcNever1 x0 x1 x2 x3 x4 x5 x6 x7 x8 x10 x11 x12)) ∧ (¬ (x9 = 0) →
 Nd (neverRel [.lst x0] [.bool false]) (
 True)))))))))) ∧ (¬ ((((Sx.cellAt x0 x3 0).toInt : Int).tmod (2)) = 0) →
 Nd (¬ ((((Sx.cellAt x0 x3 0).toInt : Int).tmod (2)) = 0)) (
 Nd (¬ ((((Sx.cellAt x0 x3 0).toInt : Int).tmod (2)) = 0)) (
 Nd (¬ ((((Sx.cellAt x0 x3 0).toInt : Int).tmod (2)) = 0)) (
((((x1.length : Int) = 0) →
 Nd (¬ ((x4.length : Int) < (x4.length : Int))) (
 Nd ((x4.length : Int) = (x4.length : Int)) (
 Nd (takePre [.int x3, .lst x4, .int x5, .int x6]) (
 ∀ x7 : Int,
 ∀ x8 : Int,
 ∀ x9 : Int,
 ∀ x10 : Sx.Rows,
 ∀ x11 : Int,
 ∀ x12 : Int,
(takeRel [.int x3, .lst x4, .int x5, .int x6] [.int x7, .int x8, .int x9, .lst x10, .int x11, .int x12]) →
(((x9 = 0) →
(vcNever1 x0 x1 x2 x3 x4 x5 x6 x7 x8 x10 x11 x12)) ∧ (¬ (x9 = 0) →
 Nd (neverRel [.lst x0] [.bool false]) (
 True))))))) ∧ (¬ ((x1.length : Int) = 0) →
 Nd (¬ (x3 < 0)) (
 Nd (x3 < (x0.length : Int)) (
 Nd ((¬ ((Sx.cellAt x0 x3 1).toInt < (-9223372036854775808))) ∧ ((Sx.cellAt x0 x3 1).toInt < 9223372036854775808)) (
 Nd (¬ ((x1.length : Int) = 0)) (
 Nd (¬ ((((Sx.cellAt x0 x3 1).toInt : Int).tmod ((x1.length : Int))) < 0)) (
 Nd ((((Sx.cellAt x0 x3 1).toInt : Int).tmod ((x1.length : Int))) < (x1.length : Int)) (
 Nd ((((Sx.cellAt x0 x3 1).toInt : Int).tmod ((x1.length : Int))) < (x1.length : Int)) (
 Nd (¬ ((x4.length : Int) < (x4.length : Int))) (
 Nd ((x4.length : Int) = (x4.length : Int)) (
 Nd (freePre [.int (Sx.cellAt x1 (((Sx.cellAt x0 x3 1).toInt : Int).tmod ((x1.length : Int))) 0).toInt, .int (Sx.cellAt x1 (((Sx.cellAt x0 x3 1).toInt : Int).tmod ((x1.length : Int))) 1).toInt, .lst x4, .int x5, .int x6]) (
 ∀ x7 : Int,
 ∀ x8 : Int,
 ∀ x9 : Sx.Rows,
 ∀ x10 : Int,
 ∀ x11 : Int,
(freeRel [.int (Sx.cellAt x1 (((Sx.cellAt x0 x3 1).toInt : Int).tmod ((x1.length : Int))) 0).toInt, .int (Sx.cellAt x1 (((Sx.cellAt x0 x3 1).toInt : Int).tmod ((x1.length : Int))) 1).toInt, .lst x4, .int x5, .int x6] [.int x7, .int x8, .lst x9, .int x10, .int x11]) →
(((x8 = 0) →
 Nd (¬ ((x2.length : Int) < (x2.length : Int))) (
 Nd (((x2.length : Int) + 1) < 67108865) (
 Nd ((x2.length : Int) = (x2.length : Int)) (
 Nd (¬ ((x9.length : Int) < (x9.length : Int))) (
 Nd ((x9.length : Int) = (x9.length : Int)) (
 Nd (nevCInv [.lst (x2 ++ (Sx.chunk 2 1 [(.int (Sx.cellAt x1 (((Sx.cellAt x0 x3 1).toInt : Int).tmod ((x1.length : Int))) 0).toInt), (.int (Sx.cellAt x1 (((Sx.cellAt x0 x3 1).toInt : Int).tmod ((x1.length : Int))) 1).toInt)])), .lst x9, .int x10, .int x11] [.int 0, .lst x9, .int x10, .int x11]) (
 ∀ x12 : Int,
 ∀ x13 : Sx.Rows,
 ∀ x14 : Int,
 ∀ x15 : Int,
(nevCInv [.lst (x2 ++ (Sx.chunk 2 1 [(.int (Sx.cellAt x1 (((Sx.cellAt x0 x3 1).toInt : Int).tmod ((x1.length : Int))) 0).toInt), (.int (Sx.cellAt x1 (((Sx.cellAt x0 x3 1).toInt : Int).tmod ((x1.length : Int))) 1).toInt)])), .lst x9, .int x10, .int x11] [.int x12, .lst x13, .int x14, .int x15]) →
(((x12 < ((x2.length : Int) + 1)) →
 Nd (¬ (x12 < 0)) (
 Nd (x12 < ((x2.length : Int) + 1)) (
 Nd (x12 < ((x2.length : Int) + 1)) (
 Nd (¬ ((x13.length : Int) < (x13.length : Int))) (
 Nd ((x13.length : Int) = (x13.length : Int)) (
 Nd (validPre [.int (Sx.cellAt (x2 ++ (Sx.chunk 2 1 [(.int (Sx.cellAt x1 (((Sx.cellAt x0 x3 1).toInt : Int).tmod ((x1.length : Int))) 0).toInt), (.int (Sx.cellAt x1 (((Sx.cellAt x0 x3 1).toInt : Int).tmod ((x1.length : Int))) 1).toInt)])) x12 0).toInt, .int (Sx.cellAt (x2 ++ (Sx.chunk 2 1 [(.int (Sx.cellAt x1 (((Sx.cellAt x0 x3 1).toInt : Int).tmod ((x1.length : Int))) 0).toInt), (.int (Sx.cellAt x1 (((Sx.cellAt x0 x3 1).toInt : Int).tmod ((x1.length : Int))) 1).toInt)])) x12 1).toInt, .lst x13, .int x14, .int x15]) (
 ∀ x16 : Bool,
 ∀ x17 : Sx.Rows,
 ∀ x18 : Int,
 ∀ x19 : Int,
(validRel [.int (Sx.cellAt (x2 ++ (Sx.chunk 2 1 [(.int (Sx.cellAt x1 (((Sx.cellAt x0 x3 1).toInt : Int).tmod ((x1.length : Int))) 0).toInt), (.int (Sx.cellAt x1 (((Sx.cellAt x0 x3 1).toInt : Int).tmod ((x1.length : Int))) 1).toInt)])) x12 0).toInt, .int (Sx.cellAt (x2 ++ (Sx.chunk 2 1 [(.int (Sx.cellAt x1 (((Sx.cellAt x0 x3 1).toInt : Int).tmod ((x1.length : Int))) 0).toInt), (.int (Sx.cellAt x1 (((Sx.cellAt x0 x3 1).toInt : Int).tmod ((x1.length : Int))) 1).toInt)])) x12 1).toInt, .lst x13, .int x14, .int x15] [.bool x16, .lst x17, .int x18, .int x19]) →
(((x16 = true) →
 Nd (neverRel [.lst x0] [.bool false]) (
 True)) ∧ (¬ (x16 = true) →
 Nd ((¬ ((x12 + 1) < (-9223372036854775808))) ∧ ((x12 + 1) < 9223372036854775808)) (
 Nd (¬ ((x17.length : Int) < (x17.length : Int))) (
 Nd ((x17.length : Int) = (x17.length : Int)) (
 Nd (nevCInv [.lst (x2 ++ (Sx.chunk 2 1 [(.int (Sx.cellAt x1 (((Sx.cellAt x0 x3 1).toInt : Int).tmod ((x1.length : Int))) 0).toInt), (.int (Sx.cellAt x1 (((Sx.cellAt x0 x3 1).toInt : Int).tmod ((x1.length : Int))) 1).toInt)])), .lst x9, .int x10, .int x11] [.int (x12 + 1), .lst x17, .int x18, .int x19]) (
 Nd (nevCMu [.lst (x2 ++ (Sx.chunk 2 1 [(.int (Sx.cellAt x1 (((Sx.cellAt x0 x3 1).toInt : Int).tmod ((x1.length : Int))) 0).toInt), (.int (Sx.cellAt x1 (((Sx.cellAt x0 x3 1).toInt : Int).tmod ((x1.length : Int))) 1).toInt)])), .lst x9, .int x10, .int x11] [.int (x12 + 1), .lst x17, .int x18, .int x19] < nevCMu [.lst (x2 ++ (Sx.chunk 2 1 [(.int (Sx.cellAt x1 (((Sx.cellAt x0 x3 1).toInt : Int).tmod ((x1.length : Int))) 0).toInt), (.int (Sx.cellAt x1 (((Sx.cellAt x0 x3 1).toInt : Int).tmod ((x1.length : Int))) 1).toInt)])), .lst x9, .int x10, .int x11] [.int x12, .lst x13, .int x14, .int x15]) (
 True)))))))))))))) ∧ (¬ (x12 < ((x2.length : Int) + 1)) →
 Nd ((¬ ((x3 + 1) < (-9223372036854775808))) ∧ ((x3 + 1) < 9223372036854775808)) (
 Nd (¬ ((x1.length : Int) < (x1.length : Int))) (
 Nd ((x1.length : Int) = (x1.length : Int)) (
 Nd (¬ (((x2.length : Int) + 1) < ((x2.length : Int) + 1))) (
 Nd (((x2.length : Int) + 1) = ((x2.length : Int) + 1)) (
 Nd (¬ ((x13.length : Int) < (x13.length : Int))) (
 Nd ((x13.length : Int) = (x13.length : Int)) (
 Nd (nevInv [] [.lst x1, .lst (x2 ++ (Sx.chunk 2 1 [(.int (Sx.cellAt x1 (((Sx.cellAt x0 x3 1).toInt : Int).tmod ((x1.length : Int))) 0).toInt), (.int (Sx.cellAt x1 (((Sx.cellAt x0 x3 1).toInt : Int).tmod ((x1.length : Int))) 1).toInt)])), .int (x3 + 1), .lst x13, .int x14, .int x15]) (
 Nd (nevMu [] [.lst x1, .lst (x2 ++ (Sx.chunk 2 1 [(.int (Sx.cellAt x1 (((Sx.cellAt x0 x3 1).toInt : Int).tmod ((x1.length : Int))) 0).toInt), (.int (Sx.cellAt x1 (((Sx.cellAt x0 x3 1).toInt : Int).tmod ((x1.length : Int))) 1).toInt)])), .int (x3 + 1), .lst x13, .int x14, .int x15] < nevMu [] [.lst x1, .lst x2, .int x3, .lst x4, .int x5, .int x6]) (
 True)))))))))))))))))) ∧ (¬ (x8 = 0) →
 Nd (¬ ((x9.length : Int) < (x9.length : Int))) (
 Nd ((x9.length : Int) = (x9.length : Int)) (
 Nd (nevCInv [.lst x2, .lst x9, .int x10, .int x11] [.int 0, .lst x9, .int x10, .int x11]) (
 ∀ x12 : Int,
 ∀ x13 : Sx.Rows,
 ∀ x14 : Int,
 ∀ x15 : Int,
(nevCInv [.lst x2, .lst x9, .int x10, .int x11] [.int x12, .lst x13, .int x14, .int x15]) →
(((x12 < (x2.length : Int)) →
 Nd (¬ (x12 < 0)) (
 Nd (x12 < (x2.length : Int)) (
 Nd (x12 < (x2.length : Int)) (
 Nd (¬ ((x13.length : Int) < (x13.length : Int))) (
 Nd ((x13.length : Int) = (x13.length : Int)) (
 Nd (validPre [.int (Sx.cellAt x2 x12 0).toInt, .int (Sx.cellAt x2 x12 1).toInt, .lst x13, .int x14, .int x15]) (
 ∀ x16 : Bool,
 ∀ x17 : Sx.Rows,
 ∀ x18 : Int,
 ∀ x19 : Int,
(validRel [.int (Sx.cellAt x2 x12 0).toInt, .int (Sx.cellAt x2 x12 1).toInt, .lst x13, .int x14, .int x15] [.bool x16, .lst x17, .int x18, .int x19]) →
(((x16 = true) →
 Nd (neverRel [.lst x0] [.bool false]) (
 True)) ∧ (¬ (x16 = true) →
 Nd ((¬ ((x12 + 1) < (-9223372036854775808))) ∧ ((x12 + 1) < 9223372036854775808)) (
 Nd (¬ ((x17.length : Int) < (x17.length : Int))) (
 Nd ((x17.length : Int) = (x17.length : Int)) (
 Nd (nevCInv [.lst x2, .lst x9, .int x10, .int x11] [.int (x12 + 1), .lst x17, .int x18, .int x19]) (
 Nd (nevCMu [.lst x2, .lst x9, .int x10, .int x11] [.int (x12 + 1), .lst x17, .int x18, .int x19] < nevCMu [.lst x2, .lst x9, .int x10, .int x11] [.int x12, .lst x13, .int x14, .int x15]) (
 True)))))))))))))) ∧ (¬ (x12 < (x2.length : Int)) →
 Nd ((¬ ((x3 + 1) < (-9223372036854775808))) ∧ ((x3 + 1) < 9223372036854775808)) (
 Nd (¬ ((x1.length : Int) < (x1.length : Int))) (
 Nd ((x1.length : Int) = (x1.length : Int)) (
 Nd (¬ ((x2.length : Int) < (x2.length : Int))) (
 Nd ((x2.length : Int) = (x2.length : Int)) (
 Nd (¬ ((x13.length : Int) < (x13.length : Int))) (
 Nd ((x13.length : Int) = (x13.length : Int)) (
 Nd (nevInv [] [.lst x1, .lst x2, .int (x3 + 1), .lst x13, .int x14, .int x15]) (
 Nd (nevMu [] [.lst x1, .lst x2, .int (x3 + 1), .lst x13, .int x14, .int x15] < nevMu [] [.lst x1, .lst x2, .int x3, .lst x4, .int x5, .int x6]) (
 True)))))))))))))))))))))))))))))))))))) ∧ (¬ (x3 < 80) →
 Nd ((¬ (((x1.length : Int) - (x2.length : Int)) < (-9223372036854775808))) ∧ (((x1.length : Int) - (x2.length : Int)) < 9223372036854775808)) (
(((x6 = ((x1.length : Int) - (x2.length : Int))) →
(vcNever2 x0 x1 x2 x4 x5 x6)) ∧ (¬ (x6 = ((x1.length : Int) - (x2.length : Int))) →
(vcNever3 x0 x1 x2 x6))))))))) ∧ (¬ (x3 < (x0.length : Int)) →
 Nd (¬ (x3 < (x0.length : Int))) (
 Nd (¬ (x3 < (x0.length : Int))) (
 Nd ((¬ (((x1.length : Int) - (x2.length : Int)) < (-9223372036854775808))) ∧ (((x1.length : Int) - (x2.length : Int)) < 9223372036854775808)) (
(((x6 = ((x1.length : Int) - (x2.length : Int))) →
(vcNever2 x0 x1 x2 x4 x5 x6)) ∧ (¬ (x6 = ((x1.length : Int) - (x2.length : Int))) →
(vcNever3 x0 x1 x2 x6)))))))))
theorem vcNever_eq : (cvc Go.Proofs.Try.prog U0 cNever (sxF Go.Proofs.Try.prog U0 anns (conOf Go.Proofs.Try.prog U0 (stage 1)) 400 4)).vc U0 (fun _ => True) = vcNever := by kernel_rfl
end Go.C15
