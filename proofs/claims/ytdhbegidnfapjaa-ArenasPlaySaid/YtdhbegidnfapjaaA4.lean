/- The conditions of contracts, as the engine's printer has written them, and that the kernel comes to the same.
  Conditions: none. -/
import Derived.Test.YtdhbegidnfapjaaA1
import Derived.Test.YtdhbegidnfapjaaRows
import Derived.KernelRfl
set_option linter.unusedVariables false
set_option maxRecDepth 100000
namespace Go.C15
open Go Go.Xe Go.Sx
/-- What the contract of 'never' asks for. -/
def vcNever : Prop :=
∀ x0 : Sx.Rows,
(neverPre [.lst x0]) →
nd% (nevInv [] [.lst ([] : Sx.Rows), .lst ([] : Sx.Rows), .int 0, .lst ([] : Sx.Rows), .int 0, .int 0]);
∀ x1 : Sx.Rows,
∀ x2 : Sx.Rows,
∀ x3 : Int,
∀ x4 : Sx.Rows,
∀ x5 : Int,
∀ x6 : Int,
(nevInv [] [.lst x1, .lst x2, .int x3, .lst x4, .int x5, .int x6]) →
(((x3 < (x0.length : Int)) →
nd% (x3 < (x0.length : Int));
nd% (x3 < (x0.length : Int));
(((x3 < 80) →
nd% (¬ (x3 < 0));
nd% (x3 < (x0.length : Int));
((((((Sx.cellAt x0 x3 0).toInt : Int).tmod (2)) = 0) →
nd% ((((Sx.cellAt x0 x3 0).toInt : Int).tmod (2)) = 0);
nd% ((((Sx.cellAt x0 x3 0).toInt : Int).tmod (2)) = 0);
nd% ((((Sx.cellAt x0 x3 0).toInt : Int).tmod (2)) = 0);
nd% (¬ ((x4.length : Int) < (x4.length : Int)));
nd% ((x4.length : Int) = (x4.length : Int));
nd% (takePre [.int x3, .lst x4, .int x5, .int x6]);
∀ x7 : Int,
∀ x8 : Int,
∀ x9 : Int,
∀ x10 : Sx.Rows,
∀ x11 : Int,
∀ x12 : Int,
(takeRel [.int x3, .lst x4, .int x5, .int x6] [.int x7, .int x8, .int x9, .lst x10, .int x11, .int x12]) →
(((x9 = 0) →
nd% (nevBInv [.lst x1, .int x7, .int x8] [.int 0]);
∀ x13 : Int,
(nevBInv [.lst x1, .int x7, .int x8] [.int x13]) →
(((x13 < (x1.length : Int)) →
nd% (¬ (x13 < 0));
nd% (x13 < (x1.length : Int));
nd% (x13 < (x1.length : Int));
((((Sx.cellAt x1 x13 0).toInt = x7) →
((((Sx.cellAt x1 x13 1).toInt = x8) →
nd% (neverRel [.lst x0] [.bool false]);
True) ∧ (¬ ((Sx.cellAt x1 x13 1).toInt = x8) →
nd% ((¬ ((x13 + 1) < (-9223372036854775808))) ∧ ((x13 + 1) < 9223372036854775808));
nd% (nevBInv [.lst x1, .int x7, .int x8] [.int (x13 + 1)]);
nd% (nevBMu [.lst x1, .int x7, .int x8] [.int (x13 + 1)] < nevBMu [.lst x1, .int x7, .int x8] [.int x13]);
True))) ∧ (¬ ((Sx.cellAt x1 x13 0).toInt = x7) →
nd% ((¬ ((x13 + 1) < (-9223372036854775808))) ∧ ((x13 + 1) < 9223372036854775808));
nd% (nevBInv [.lst x1, .int x7, .int x8] [.int (x13 + 1)]);
nd% (nevBMu [.lst x1, .int x7, .int x8] [.int (x13 + 1)] < nevBMu [.lst x1, .int x7, .int x8] [.int x13]);
True))) ∧ (¬ (x13 < (x1.length : Int)) →
nd% (¬ ((x1.length : Int) < (x1.length : Int)));
nd% (((x1.length : Int) + 1) < 67108865);
nd% ((x1.length : Int) = (x1.length : Int));
nd% ((¬ ((x3 + 1) < (-9223372036854775808))) ∧ ((x3 + 1) < 9223372036854775808));
nd% (¬ (((x1.length : Int) + 1) < ((x1.length : Int) + 1)));
nd% (((x1.length : Int) + 1) = ((x1.length : Int) + 1));
nd% (¬ ((x2.length : Int) < (x2.length : Int)));
nd% ((x2.length : Int) = (x2.length : Int));
nd% (¬ ((x10.length : Int) < (x10.length : Int)));
nd% ((x10.length : Int) = (x10.length : Int));
nd% (nevInv [] [.lst (x1 ++ (Sx.chunk 2 1 [(.int x7), (.int x8)])), .lst x2, .int (x3 + 1), .lst x10, .int x11, .int x12]);
nd% (nevMu [] [.lst (x1 ++ (Sx.chunk 2 1 [(.int x7), (.int x8)])), .lst x2, .int (x3 + 1), .lst x10, .int x11, .int x12] < nevMu [] [.lst x1, .lst x2, .int x3, .lst x4, .int x5, .int x6]);
True))) ∧ (¬ (x9 = 0) →
nd% (neverRel [.lst x0] [.bool false]);
True))) ∧ (¬ ((((Sx.cellAt x0 x3 0).toInt : Int).tmod (2)) = 0) →
nd% (¬ ((((Sx.cellAt x0 x3 0).toInt : Int).tmod (2)) = 0));
nd% (¬ ((((Sx.cellAt x0 x3 0).toInt : Int).tmod (2)) = 0));
nd% (¬ ((((Sx.cellAt x0 x3 0).toInt : Int).tmod (2)) = 0));
((((x1.length : Int) = 0) →
nd% (¬ ((x4.length : Int) < (x4.length : Int)));
nd% ((x4.length : Int) = (x4.length : Int));
nd% (takePre [.int x3, .lst x4, .int x5, .int x6]);
∀ x7 : Int,
∀ x8 : Int,
∀ x9 : Int,
∀ x10 : Sx.Rows,
∀ x11 : Int,
∀ x12 : Int,
(takeRel [.int x3, .lst x4, .int x5, .int x6] [.int x7, .int x8, .int x9, .lst x10, .int x11, .int x12]) →
(((x9 = 0) →
nd% (nevBInv [.lst x1, .int x7, .int x8] [.int 0]);
∀ x13 : Int,
(nevBInv [.lst x1, .int x7, .int x8] [.int x13]) →
(((x13 < (x1.length : Int)) →
nd% (¬ (x13 < 0));
nd% (x13 < (x1.length : Int));
nd% (x13 < (x1.length : Int));
((((Sx.cellAt x1 x13 0).toInt = x7) →
((((Sx.cellAt x1 x13 1).toInt = x8) →
nd% (neverRel [.lst x0] [.bool false]);
True) ∧ (¬ ((Sx.cellAt x1 x13 1).toInt = x8) →
nd% ((¬ ((x13 + 1) < (-9223372036854775808))) ∧ ((x13 + 1) < 9223372036854775808));
nd% (nevBInv [.lst x1, .int x7, .int x8] [.int (x13 + 1)]);
nd% (nevBMu [.lst x1, .int x7, .int x8] [.int (x13 + 1)] < nevBMu [.lst x1, .int x7, .int x8] [.int x13]);
True))) ∧ (¬ ((Sx.cellAt x1 x13 0).toInt = x7) →
nd% ((¬ ((x13 + 1) < (-9223372036854775808))) ∧ ((x13 + 1) < 9223372036854775808));
nd% (nevBInv [.lst x1, .int x7, .int x8] [.int (x13 + 1)]);
nd% (nevBMu [.lst x1, .int x7, .int x8] [.int (x13 + 1)] < nevBMu [.lst x1, .int x7, .int x8] [.int x13]);
True))) ∧ (¬ (x13 < (x1.length : Int)) →
nd% (¬ ((x1.length : Int) < (x1.length : Int)));
nd% (((x1.length : Int) + 1) < 67108865);
nd% ((x1.length : Int) = (x1.length : Int));
nd% ((¬ ((x3 + 1) < (-9223372036854775808))) ∧ ((x3 + 1) < 9223372036854775808));
nd% (¬ (((x1.length : Int) + 1) < ((x1.length : Int) + 1)));
nd% (((x1.length : Int) + 1) = ((x1.length : Int) + 1));
nd% (¬ ((x2.length : Int) < (x2.length : Int)));
nd% ((x2.length : Int) = (x2.length : Int));
nd% (¬ ((x10.length : Int) < (x10.length : Int)));
nd% ((x10.length : Int) = (x10.length : Int));
nd% (nevInv [] [.lst (x1 ++ (Sx.chunk 2 1 [(.int x7), (.int x8)])), .lst x2, .int (x3 + 1), .lst x10, .int x11, .int x12]);
nd% (nevMu [] [.lst (x1 ++ (Sx.chunk 2 1 [(.int x7), (.int x8)])), .lst x2, .int (x3 + 1), .lst x10, .int x11, .int x12] < nevMu [] [.lst x1, .lst x2, .int x3, .lst x4, .int x5, .int x6]);
True))) ∧ (¬ (x9 = 0) →
nd% (neverRel [.lst x0] [.bool false]);
True))) ∧ (¬ ((x1.length : Int) = 0) →
nd% (¬ (x3 < 0));
nd% (x3 < (x0.length : Int));
nd% ((¬ ((Sx.cellAt x0 x3 1).toInt < (-9223372036854775808))) ∧ ((Sx.cellAt x0 x3 1).toInt < 9223372036854775808));
nd% (¬ ((x1.length : Int) = 0));
nd% (¬ ((((Sx.cellAt x0 x3 1).toInt : Int).tmod ((x1.length : Int))) < 0));
nd% ((((Sx.cellAt x0 x3 1).toInt : Int).tmod ((x1.length : Int))) < (x1.length : Int));
nd% ((((Sx.cellAt x0 x3 1).toInt : Int).tmod ((x1.length : Int))) < (x1.length : Int));
nd% (¬ ((x4.length : Int) < (x4.length : Int)));
nd% ((x4.length : Int) = (x4.length : Int));
nd% (freePre [.int (Sx.cellAt x1 (((Sx.cellAt x0 x3 1).toInt : Int).tmod ((x1.length : Int))) 0).toInt, .int (Sx.cellAt x1 (((Sx.cellAt x0 x3 1).toInt : Int).tmod ((x1.length : Int))) 1).toInt, .lst x4, .int x5, .int x6]);
∀ x7 : Int,
∀ x8 : Int,
∀ x9 : Sx.Rows,
∀ x10 : Int,
∀ x11 : Int,
(freeRel [.int (Sx.cellAt x1 (((Sx.cellAt x0 x3 1).toInt : Int).tmod ((x1.length : Int))) 0).toInt, .int (Sx.cellAt x1 (((Sx.cellAt x0 x3 1).toInt : Int).tmod ((x1.length : Int))) 1).toInt, .lst x4, .int x5, .int x6] [.int x7, .int x8, .lst x9, .int x10, .int x11]) →
(((x8 = 0) →
nd% (¬ ((x2.length : Int) < (x2.length : Int)));
nd% (((x2.length : Int) + 1) < 67108865);
nd% ((x2.length : Int) = (x2.length : Int));
nd% (¬ ((x9.length : Int) < (x9.length : Int)));
nd% ((x9.length : Int) = (x9.length : Int));
nd% (nevCInv [.lst (x2 ++ (Sx.chunk 2 1 [(.int (Sx.cellAt x1 (((Sx.cellAt x0 x3 1).toInt : Int).tmod ((x1.length : Int))) 0).toInt), (.int (Sx.cellAt x1 (((Sx.cellAt x0 x3 1).toInt : Int).tmod ((x1.length : Int))) 1).toInt)])), .lst x9, .int x10, .int x11] [.int 0, .lst x9, .int x10, .int x11]);
∀ x12 : Int,
∀ x13 : Sx.Rows,
∀ x14 : Int,
∀ x15 : Int,
(nevCInv [.lst (x2 ++ (Sx.chunk 2 1 [(.int (Sx.cellAt x1 (((Sx.cellAt x0 x3 1).toInt : Int).tmod ((x1.length : Int))) 0).toInt), (.int (Sx.cellAt x1 (((Sx.cellAt x0 x3 1).toInt : Int).tmod ((x1.length : Int))) 1).toInt)])), .lst x9, .int x10, .int x11] [.int x12, .lst x13, .int x14, .int x15]) →
(((x12 < ((x2.length : Int) + 1)) →
nd% (¬ (x12 < 0));
nd% (x12 < ((x2.length : Int) + 1));
nd% (x12 < ((x2.length : Int) + 1));
nd% (¬ ((x13.length : Int) < (x13.length : Int)));
nd% ((x13.length : Int) = (x13.length : Int));
nd% (validPre [.int (Sx.cellAt (x2 ++ (Sx.chunk 2 1 [(.int (Sx.cellAt x1 (((Sx.cellAt x0 x3 1).toInt : Int).tmod ((x1.length : Int))) 0).toInt), (.int (Sx.cellAt x1 (((Sx.cellAt x0 x3 1).toInt : Int).tmod ((x1.length : Int))) 1).toInt)])) x12 0).toInt, .int (Sx.cellAt (x2 ++ (Sx.chunk 2 1 [(.int (Sx.cellAt x1 (((Sx.cellAt x0 x3 1).toInt : Int).tmod ((x1.length : Int))) 0).toInt), (.int (Sx.cellAt x1 (((Sx.cellAt x0 x3 1).toInt : Int).tmod ((x1.length : Int))) 1).toInt)])) x12 1).toInt, .lst x13, .int x14, .int x15]);
∀ x16 : Bool,
∀ x17 : Sx.Rows,
∀ x18 : Int,
∀ x19 : Int,
(validRel [.int (Sx.cellAt (x2 ++ (Sx.chunk 2 1 [(.int (Sx.cellAt x1 (((Sx.cellAt x0 x3 1).toInt : Int).tmod ((x1.length : Int))) 0).toInt), (.int (Sx.cellAt x1 (((Sx.cellAt x0 x3 1).toInt : Int).tmod ((x1.length : Int))) 1).toInt)])) x12 0).toInt, .int (Sx.cellAt (x2 ++ (Sx.chunk 2 1 [(.int (Sx.cellAt x1 (((Sx.cellAt x0 x3 1).toInt : Int).tmod ((x1.length : Int))) 0).toInt), (.int (Sx.cellAt x1 (((Sx.cellAt x0 x3 1).toInt : Int).tmod ((x1.length : Int))) 1).toInt)])) x12 1).toInt, .lst x13, .int x14, .int x15] [.bool x16, .lst x17, .int x18, .int x19]) →
(((x16 = true) →
nd% (neverRel [.lst x0] [.bool false]);
True) ∧ (¬ (x16 = true) →
nd% ((¬ ((x12 + 1) < (-9223372036854775808))) ∧ ((x12 + 1) < 9223372036854775808));
nd% (¬ ((x17.length : Int) < (x17.length : Int)));
nd% ((x17.length : Int) = (x17.length : Int));
nd% (nevCInv [.lst (x2 ++ (Sx.chunk 2 1 [(.int (Sx.cellAt x1 (((Sx.cellAt x0 x3 1).toInt : Int).tmod ((x1.length : Int))) 0).toInt), (.int (Sx.cellAt x1 (((Sx.cellAt x0 x3 1).toInt : Int).tmod ((x1.length : Int))) 1).toInt)])), .lst x9, .int x10, .int x11] [.int (x12 + 1), .lst x17, .int x18, .int x19]);
nd% (nevCMu [.lst (x2 ++ (Sx.chunk 2 1 [(.int (Sx.cellAt x1 (((Sx.cellAt x0 x3 1).toInt : Int).tmod ((x1.length : Int))) 0).toInt), (.int (Sx.cellAt x1 (((Sx.cellAt x0 x3 1).toInt : Int).tmod ((x1.length : Int))) 1).toInt)])), .lst x9, .int x10, .int x11] [.int (x12 + 1), .lst x17, .int x18, .int x19] < nevCMu [.lst (x2 ++ (Sx.chunk 2 1 [(.int (Sx.cellAt x1 (((Sx.cellAt x0 x3 1).toInt : Int).tmod ((x1.length : Int))) 0).toInt), (.int (Sx.cellAt x1 (((Sx.cellAt x0 x3 1).toInt : Int).tmod ((x1.length : Int))) 1).toInt)])), .lst x9, .int x10, .int x11] [.int x12, .lst x13, .int x14, .int x15]);
True))) ∧ (¬ (x12 < ((x2.length : Int) + 1)) →
nd% ((¬ ((x3 + 1) < (-9223372036854775808))) ∧ ((x3 + 1) < 9223372036854775808));
nd% (¬ ((x1.length : Int) < (x1.length : Int)));
nd% ((x1.length : Int) = (x1.length : Int));
nd% (¬ (((x2.length : Int) + 1) < ((x2.length : Int) + 1)));
nd% (((x2.length : Int) + 1) = ((x2.length : Int) + 1));
nd% (¬ ((x13.length : Int) < (x13.length : Int)));
nd% ((x13.length : Int) = (x13.length : Int));
nd% (nevInv [] [.lst x1, .lst (x2 ++ (Sx.chunk 2 1 [(.int (Sx.cellAt x1 (((Sx.cellAt x0 x3 1).toInt : Int).tmod ((x1.length : Int))) 0).toInt), (.int (Sx.cellAt x1 (((Sx.cellAt x0 x3 1).toInt : Int).tmod ((x1.length : Int))) 1).toInt)])), .int (x3 + 1), .lst x13, .int x14, .int x15]);
nd% (nevMu [] [.lst x1, .lst (x2 ++ (Sx.chunk 2 1 [(.int (Sx.cellAt x1 (((Sx.cellAt x0 x3 1).toInt : Int).tmod ((x1.length : Int))) 0).toInt), (.int (Sx.cellAt x1 (((Sx.cellAt x0 x3 1).toInt : Int).tmod ((x1.length : Int))) 1).toInt)])), .int (x3 + 1), .lst x13, .int x14, .int x15] < nevMu [] [.lst x1, .lst x2, .int x3, .lst x4, .int x5, .int x6]);
True))) ∧ (¬ (x8 = 0) →
nd% (¬ ((x9.length : Int) < (x9.length : Int)));
nd% ((x9.length : Int) = (x9.length : Int));
nd% (nevCInv [.lst x2, .lst x9, .int x10, .int x11] [.int 0, .lst x9, .int x10, .int x11]);
∀ x12 : Int,
∀ x13 : Sx.Rows,
∀ x14 : Int,
∀ x15 : Int,
(nevCInv [.lst x2, .lst x9, .int x10, .int x11] [.int x12, .lst x13, .int x14, .int x15]) →
(((x12 < (x2.length : Int)) →
nd% (¬ (x12 < 0));
nd% (x12 < (x2.length : Int));
nd% (x12 < (x2.length : Int));
nd% (¬ ((x13.length : Int) < (x13.length : Int)));
nd% ((x13.length : Int) = (x13.length : Int));
nd% (validPre [.int (Sx.cellAt x2 x12 0).toInt, .int (Sx.cellAt x2 x12 1).toInt, .lst x13, .int x14, .int x15]);
∀ x16 : Bool,
∀ x17 : Sx.Rows,
∀ x18 : Int,
∀ x19 : Int,
(validRel [.int (Sx.cellAt x2 x12 0).toInt, .int (Sx.cellAt x2 x12 1).toInt, .lst x13, .int x14, .int x15] [.bool x16, .lst x17, .int x18, .int x19]) →
(((x16 = true) →
nd% (neverRel [.lst x0] [.bool false]);
True) ∧ (¬ (x16 = true) →
nd% ((¬ ((x12 + 1) < (-9223372036854775808))) ∧ ((x12 + 1) < 9223372036854775808));
nd% (¬ ((x17.length : Int) < (x17.length : Int)));
nd% ((x17.length : Int) = (x17.length : Int));
nd% (nevCInv [.lst x2, .lst x9, .int x10, .int x11] [.int (x12 + 1), .lst x17, .int x18, .int x19]);
nd% (nevCMu [.lst x2, .lst x9, .int x10, .int x11] [.int (x12 + 1), .lst x17, .int x18, .int x19] < nevCMu [.lst x2, .lst x9, .int x10, .int x11] [.int x12, .lst x13, .int x14, .int x15]);
True))) ∧ (¬ (x12 < (x2.length : Int)) →
nd% ((¬ ((x3 + 1) < (-9223372036854775808))) ∧ ((x3 + 1) < 9223372036854775808));
nd% (¬ ((x1.length : Int) < (x1.length : Int)));
nd% ((x1.length : Int) = (x1.length : Int));
nd% (¬ ((x2.length : Int) < (x2.length : Int)));
nd% ((x2.length : Int) = (x2.length : Int));
nd% (¬ ((x13.length : Int) < (x13.length : Int)));
nd% ((x13.length : Int) = (x13.length : Int));
nd% (nevInv [] [.lst x1, .lst x2, .int (x3 + 1), .lst x13, .int x14, .int x15]);
nd% (nevMu [] [.lst x1, .lst x2, .int (x3 + 1), .lst x13, .int x14, .int x15] < nevMu [] [.lst x1, .lst x2, .int x3, .lst x4, .int x5, .int x6]);
True))))))))) ∧ (¬ (x3 < 80) →
nd% ((¬ (((x1.length : Int) - (x2.length : Int)) < (-9223372036854775808))) ∧ (((x1.length : Int) - (x2.length : Int)) < 9223372036854775808));
(((x6 = ((x1.length : Int) - (x2.length : Int))) →
nd% (x6 = ((x1.length : Int) - (x2.length : Int)));
nd% (x6 = ((x1.length : Int) - (x2.length : Int)));
nd% (x6 = ((x1.length : Int) - (x2.length : Int)));
nd% (¬ ((x4.length : Int) < (x4.length : Int)));
nd% ((x4.length : Int) = (x4.length : Int));
nd% (waitPre [.lst x4, .int x5, .int x6]);
∀ x7 : Sx.Rows,
∀ x8 : Sx.Rows,
∀ x9 : Int,
∀ x10 : Int,
(waitRel [.lst x4, .int x5, .int x6] [.lst x7, .lst x8, .int x9, .int x10]) →
nd% (x6 = ((x1.length : Int) - (x2.length : Int)));
nd% (x6 = ((x1.length : Int) - (x2.length : Int)));
nd% ((¬ ((x6 + (x7.length : Int)) < (-9223372036854775808))) ∧ ((x6 + (x7.length : Int)) < 9223372036854775808));
nd% (x6 = ((x1.length : Int) - (x2.length : Int)));
nd% (x6 = ((x1.length : Int) - (x2.length : Int)));
nd% (x6 = ((x1.length : Int) - (x2.length : Int)));
nd% (x6 = ((x1.length : Int) - (x2.length : Int)));
((((x6 + (x7.length : Int)) = (x8.length : Int)) →
nd% (livesPre []);
∀ x11 : Bool,
(livesRel [] [.bool x11]) →
nd% ((x6 + (x7.length : Int)) = (x8.length : Int));
nd% (neverRel [.lst x0] [.bool x11]);
True) ∧ (¬ ((x6 + (x7.length : Int)) = (x8.length : Int)) →
nd% (¬ ((x6 + (x7.length : Int)) = (x8.length : Int)));
nd% (neverRel [.lst x0] [.bool false]);
True))) ∧ (¬ (x6 = ((x1.length : Int) - (x2.length : Int))) →
nd% (¬ (x6 = ((x1.length : Int) - (x2.length : Int))));
nd% (¬ (x6 = ((x1.length : Int) - (x2.length : Int))));
nd% (¬ (x6 = ((x1.length : Int) - (x2.length : Int))));
nd% (¬ (x6 = ((x1.length : Int) - (x2.length : Int))));
nd% (¬ (x6 = ((x1.length : Int) - (x2.length : Int))));
nd% (¬ (x6 = ((x1.length : Int) - (x2.length : Int))));
nd% (¬ (x6 = ((x1.length : Int) - (x2.length : Int))));
nd% (¬ (x6 = ((x1.length : Int) - (x2.length : Int))));
nd% (¬ (x6 = ((x1.length : Int) - (x2.length : Int))));
nd% (neverRel [.lst x0] [.bool false]);
True))))) ∧ (¬ (x3 < (x0.length : Int)) →
nd% (¬ (x3 < (x0.length : Int)));
nd% (¬ (x3 < (x0.length : Int)));
nd% ((¬ (((x1.length : Int) - (x2.length : Int)) < (-9223372036854775808))) ∧ (((x1.length : Int) - (x2.length : Int)) < 9223372036854775808));
(((x6 = ((x1.length : Int) - (x2.length : Int))) →
nd% (x6 = ((x1.length : Int) - (x2.length : Int)));
nd% (x6 = ((x1.length : Int) - (x2.length : Int)));
nd% (x6 = ((x1.length : Int) - (x2.length : Int)));
nd% (¬ ((x4.length : Int) < (x4.length : Int)));
nd% ((x4.length : Int) = (x4.length : Int));
nd% (waitPre [.lst x4, .int x5, .int x6]);
∀ x7 : Sx.Rows,
∀ x8 : Sx.Rows,
∀ x9 : Int,
∀ x10 : Int,
(waitRel [.lst x4, .int x5, .int x6] [.lst x7, .lst x8, .int x9, .int x10]) →
nd% (x6 = ((x1.length : Int) - (x2.length : Int)));
nd% (x6 = ((x1.length : Int) - (x2.length : Int)));
nd% ((¬ ((x6 + (x7.length : Int)) < (-9223372036854775808))) ∧ ((x6 + (x7.length : Int)) < 9223372036854775808));
nd% (x6 = ((x1.length : Int) - (x2.length : Int)));
nd% (x6 = ((x1.length : Int) - (x2.length : Int)));
nd% (x6 = ((x1.length : Int) - (x2.length : Int)));
nd% (x6 = ((x1.length : Int) - (x2.length : Int)));
((((x6 + (x7.length : Int)) = (x8.length : Int)) →
nd% (livesPre []);
∀ x11 : Bool,
(livesRel [] [.bool x11]) →
nd% ((x6 + (x7.length : Int)) = (x8.length : Int));
nd% (neverRel [.lst x0] [.bool x11]);
True) ∧ (¬ ((x6 + (x7.length : Int)) = (x8.length : Int)) →
nd% (¬ ((x6 + (x7.length : Int)) = (x8.length : Int)));
nd% (neverRel [.lst x0] [.bool false]);
True))) ∧ (¬ (x6 = ((x1.length : Int) - (x2.length : Int))) →
nd% (¬ (x6 = ((x1.length : Int) - (x2.length : Int))));
nd% (¬ (x6 = ((x1.length : Int) - (x2.length : Int))));
nd% (¬ (x6 = ((x1.length : Int) - (x2.length : Int))));
nd% (¬ (x6 = ((x1.length : Int) - (x2.length : Int))));
nd% (¬ (x6 = ((x1.length : Int) - (x2.length : Int))));
nd% (¬ (x6 = ((x1.length : Int) - (x2.length : Int))));
nd% (¬ (x6 = ((x1.length : Int) - (x2.length : Int))));
nd% (¬ (x6 = ((x1.length : Int) - (x2.length : Int))));
nd% (¬ (x6 = ((x1.length : Int) - (x2.length : Int))));
nd% (neverRel [.lst x0] [.bool false]);
True))))
theorem vcNever_eq : (cvc Go.Proofs.Try.prog U0 cNever (sxF Go.Proofs.Try.prog U0 anns (conOf Go.Proofs.Try.prog U0 (stage 1)) 400 4)).vc U0 (fun _ => True) = vcNever := by kernel_rfl
end Go.C15
