/-
  What is proved: the executor runs the rest of the law JournalsNil from that state to its end, which is true, for some values of the integer that it has computed.
  Conditions: none.
-/
import Derived.Test.YtcdhfbjbcdekfaaJournalsNilFirst
namespace Go.Proofs.Ytcdhfbjbcdekfaa.journalsNil
open Go.RowKit
set_option maxRecDepth 100000 in
theorem last0 : Xe.lastB Try.prog (Xe.xdraw Try.prog) (Xe.exec Try.prog Xe.noOv 100000) 142 100000 ((Xe.partsOf Try.prog 3).drop 12) (s1.setI 11 0) (Xe.resOf' Try.prog 3) = true := by kernel_rfl
set_option maxRecDepth 100000 in
theorem last1 : Xe.lastB Try.prog (Xe.xdraw Try.prog) (Xe.exec Try.prog Xe.noOv 100000) 142 100000 ((Xe.partsOf Try.prog 3).drop 12) (s1.setI 11 1) (Xe.resOf' Try.prog 3) = true := by kernel_rfl
set_option maxRecDepth 100000 in
theorem last2 : Xe.lastB Try.prog (Xe.xdraw Try.prog) (Xe.exec Try.prog Xe.noOv 100000) 142 100000 ((Xe.partsOf Try.prog 3).drop 12) (s1.setI 11 2) (Xe.resOf' Try.prog 3) = true := by kernel_rfl
set_option maxRecDepth 100000 in
theorem last3 : Xe.lastB Try.prog (Xe.xdraw Try.prog) (Xe.exec Try.prog Xe.noOv 100000) 142 100000 ((Xe.partsOf Try.prog 3).drop 12) (s1.setI 11 3) (Xe.resOf' Try.prog 3) = true := by kernel_rfl
set_option maxRecDepth 100000 in
theorem last4 : Xe.lastB Try.prog (Xe.xdraw Try.prog) (Xe.exec Try.prog Xe.noOv 100000) 142 100000 ((Xe.partsOf Try.prog 3).drop 12) (s1.setI 11 4) (Xe.resOf' Try.prog 3) = true := by kernel_rfl
set_option maxRecDepth 100000 in
theorem last5 : Xe.lastB Try.prog (Xe.xdraw Try.prog) (Xe.exec Try.prog Xe.noOv 100000) 142 100000 ((Xe.partsOf Try.prog 3).drop 12) (s1.setI 11 5) (Xe.resOf' Try.prog 3) = true := by kernel_rfl
set_option maxRecDepth 100000 in
theorem last6 : Xe.lastB Try.prog (Xe.xdraw Try.prog) (Xe.exec Try.prog Xe.noOv 100000) 142 100000 ((Xe.partsOf Try.prog 3).drop 12) (s1.setI 11 6) (Xe.resOf' Try.prog 3) = true := by kernel_rfl
set_option maxRecDepth 100000 in
theorem last7 : Xe.lastB Try.prog (Xe.xdraw Try.prog) (Xe.exec Try.prog Xe.noOv 100000) 142 100000 ((Xe.partsOf Try.prog 3).drop 12) (s1.setI 11 7) (Xe.resOf' Try.prog 3) = true := by kernel_rfl
set_option maxRecDepth 100000 in
theorem last8 : Xe.lastB Try.prog (Xe.xdraw Try.prog) (Xe.exec Try.prog Xe.noOv 100000) 142 100000 ((Xe.partsOf Try.prog 3).drop 12) (s1.setI 11 8) (Xe.resOf' Try.prog 3) = true := by kernel_rfl
set_option maxRecDepth 100000 in
theorem last9 : Xe.lastB Try.prog (Xe.xdraw Try.prog) (Xe.exec Try.prog Xe.noOv 100000) 142 100000 ((Xe.partsOf Try.prog 3).drop 12) (s1.setI 11 9) (Xe.resOf' Try.prog 3) = true := by kernel_rfl
end Go.Proofs.Ytcdhfbjbcdekfaa.journalsNil
