/-
  What is proved: the executor runs the rest of the law JournalsNil from that state to its end, which is true, for some values of the integer that it has computed.
  Conditions: none.
-/
import Derived.Test.YtcdhfbjbcdekfaaJournalsNilFirst
namespace Go.Proofs.Ytcdhfbjbcdekfaa.journalsNil
open Go.RowKit
set_option maxRecDepth 100000 in
theorem last10 : Xe.lastB Try.prog (Xe.xdraw Try.prog) (Xe.exec Try.prog Xe.noOv 100000) 142 100000 ((Xe.partsOf Try.prog 3).drop 12) (s1.setI 11 10) (Xe.resOf' Try.prog 3) = true := by kernel_rfl
set_option maxRecDepth 100000 in
theorem last11 : Xe.lastB Try.prog (Xe.xdraw Try.prog) (Xe.exec Try.prog Xe.noOv 100000) 142 100000 ((Xe.partsOf Try.prog 3).drop 12) (s1.setI 11 11) (Xe.resOf' Try.prog 3) = true := by kernel_rfl
set_option maxRecDepth 100000 in
theorem last12 : Xe.lastB Try.prog (Xe.xdraw Try.prog) (Xe.exec Try.prog Xe.noOv 100000) 142 100000 ((Xe.partsOf Try.prog 3).drop 12) (s1.setI 11 12) (Xe.resOf' Try.prog 3) = true := by kernel_rfl
set_option maxRecDepth 100000 in
theorem last13 : Xe.lastB Try.prog (Xe.xdraw Try.prog) (Xe.exec Try.prog Xe.noOv 100000) 142 100000 ((Xe.partsOf Try.prog 3).drop 12) (s1.setI 11 13) (Xe.resOf' Try.prog 3) = true := by kernel_rfl
set_option maxRecDepth 100000 in
theorem last14 : Xe.lastB Try.prog (Xe.xdraw Try.prog) (Xe.exec Try.prog Xe.noOv 100000) 142 100000 ((Xe.partsOf Try.prog 3).drop 12) (s1.setI 11 14) (Xe.resOf' Try.prog 3) = true := by kernel_rfl
set_option maxRecDepth 100000 in
theorem last15 : Xe.lastB Try.prog (Xe.xdraw Try.prog) (Xe.exec Try.prog Xe.noOv 100000) 142 100000 ((Xe.partsOf Try.prog 3).drop 12) (s1.setI 11 15) (Xe.resOf' Try.prog 3) = true := by kernel_rfl
set_option maxRecDepth 100000 in
theorem last16 : Xe.lastB Try.prog (Xe.xdraw Try.prog) (Xe.exec Try.prog Xe.noOv 100000) 142 100000 ((Xe.partsOf Try.prog 3).drop 12) (s1.setI 11 16) (Xe.resOf' Try.prog 3) = true := by kernel_rfl
set_option maxRecDepth 100000 in
theorem last17 : Xe.lastB Try.prog (Xe.xdraw Try.prog) (Xe.exec Try.prog Xe.noOv 100000) 142 100000 ((Xe.partsOf Try.prog 3).drop 12) (s1.setI 11 17) (Xe.resOf' Try.prog 3) = true := by kernel_rfl
set_option maxRecDepth 100000 in
theorem last18 : Xe.lastB Try.prog (Xe.xdraw Try.prog) (Xe.exec Try.prog Xe.noOv 100000) 142 100000 ((Xe.partsOf Try.prog 3).drop 12) (s1.setI 11 18) (Xe.resOf' Try.prog 3) = true := by kernel_rfl
set_option maxRecDepth 100000 in
theorem last19 : Xe.lastB Try.prog (Xe.xdraw Try.prog) (Xe.exec Try.prog Xe.noOv 100000) 142 100000 ((Xe.partsOf Try.prog 3).drop 12) (s1.setI 11 19) (Xe.resOf' Try.prog 3) = true := by kernel_rfl
end Go.Proofs.Ytcdhfbjbcdekfaa.journalsNil
