/-
  What is proved: the executor runs the rest of the law JournalsNil from that state to its end, which is true, for some values of the integer that it has computed.
  Conditions: none.
-/
import Derived.Test.YtcdhfbjbcdekfaaJournalsNilFirst
namespace Go.Proofs.Ytcdhfbjbcdekfaa.journalsNil
open Go.RowKit
set_option maxRecDepth 100000 in
theorem last70 : Xe.lastB Try.prog (Xe.xdraw Try.prog) (Xe.exec Try.prog Xe.noOv 100000) 142 100000 ((Xe.partsOf Try.prog 3).drop 12) (s1.setI 11 70) (Xe.resOf' Try.prog 3) = true := by kernel_rfl
set_option maxRecDepth 100000 in
theorem last71 : Xe.lastB Try.prog (Xe.xdraw Try.prog) (Xe.exec Try.prog Xe.noOv 100000) 142 100000 ((Xe.partsOf Try.prog 3).drop 12) (s1.setI 11 71) (Xe.resOf' Try.prog 3) = true := by kernel_rfl
set_option maxRecDepth 100000 in
theorem last72 : Xe.lastB Try.prog (Xe.xdraw Try.prog) (Xe.exec Try.prog Xe.noOv 100000) 142 100000 ((Xe.partsOf Try.prog 3).drop 12) (s1.setI 11 72) (Xe.resOf' Try.prog 3) = true := by kernel_rfl
set_option maxRecDepth 100000 in
theorem last73 : Xe.lastB Try.prog (Xe.xdraw Try.prog) (Xe.exec Try.prog Xe.noOv 100000) 142 100000 ((Xe.partsOf Try.prog 3).drop 12) (s1.setI 11 73) (Xe.resOf' Try.prog 3) = true := by kernel_rfl
set_option maxRecDepth 100000 in
theorem last74 : Xe.lastB Try.prog (Xe.xdraw Try.prog) (Xe.exec Try.prog Xe.noOv 100000) 142 100000 ((Xe.partsOf Try.prog 3).drop 12) (s1.setI 11 74) (Xe.resOf' Try.prog 3) = true := by kernel_rfl
set_option maxRecDepth 100000 in
theorem last75 : Xe.lastB Try.prog (Xe.xdraw Try.prog) (Xe.exec Try.prog Xe.noOv 100000) 142 100000 ((Xe.partsOf Try.prog 3).drop 12) (s1.setI 11 75) (Xe.resOf' Try.prog 3) = true := by kernel_rfl
set_option maxRecDepth 100000 in
theorem last76 : Xe.lastB Try.prog (Xe.xdraw Try.prog) (Xe.exec Try.prog Xe.noOv 100000) 142 100000 ((Xe.partsOf Try.prog 3).drop 12) (s1.setI 11 76) (Xe.resOf' Try.prog 3) = true := by kernel_rfl
set_option maxRecDepth 100000 in
theorem last77 : Xe.lastB Try.prog (Xe.xdraw Try.prog) (Xe.exec Try.prog Xe.noOv 100000) 142 100000 ((Xe.partsOf Try.prog 3).drop 12) (s1.setI 11 77) (Xe.resOf' Try.prog 3) = true := by kernel_rfl
set_option maxRecDepth 100000 in
theorem last78 : Xe.lastB Try.prog (Xe.xdraw Try.prog) (Xe.exec Try.prog Xe.noOv 100000) 142 100000 ((Xe.partsOf Try.prog 3).drop 12) (s1.setI 11 78) (Xe.resOf' Try.prog 3) = true := by kernel_rfl
set_option maxRecDepth 100000 in
theorem last79 : Xe.lastB Try.prog (Xe.xdraw Try.prog) (Xe.exec Try.prog Xe.noOv 100000) 142 100000 ((Xe.partsOf Try.prog 3).drop 12) (s1.setI 11 79) (Xe.resOf' Try.prog 3) = true := by kernel_rfl
end Go.Proofs.Ytcdhfbjbcdekfaa.journalsNil
