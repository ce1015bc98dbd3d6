/-
  What is proved: the executor runs the rest of the law JournalsNil from that state to its end, which is true, for some values of the integer that it has computed.
  Conditions: none.
-/
import Derived.Test.YtcdhfbjbcdekfaaJournalsNilFirst
namespace Go.Proofs.Ytcdhfbjbcdekfaa.journalsNil
open Go.RowKit
set_option maxRecDepth 100000 in
theorem last30 : Xe.lastB Try.prog (Xe.xdraw Try.prog) (Xe.exec Try.prog Xe.noOv 100000) 142 100000 ((Xe.partsOf Try.prog 3).drop 12) (s1.setI 11 30) (Xe.resOf' Try.prog 3) = true := by kernel_rfl
set_option maxRecDepth 100000 in
theorem last31 : Xe.lastB Try.prog (Xe.xdraw Try.prog) (Xe.exec Try.prog Xe.noOv 100000) 142 100000 ((Xe.partsOf Try.prog 3).drop 12) (s1.setI 11 31) (Xe.resOf' Try.prog 3) = true := by kernel_rfl
set_option maxRecDepth 100000 in
theorem last32 : Xe.lastB Try.prog (Xe.xdraw Try.prog) (Xe.exec Try.prog Xe.noOv 100000) 142 100000 ((Xe.partsOf Try.prog 3).drop 12) (s1.setI 11 32) (Xe.resOf' Try.prog 3) = true := by kernel_rfl
set_option maxRecDepth 100000 in
theorem last33 : Xe.lastB Try.prog (Xe.xdraw Try.prog) (Xe.exec Try.prog Xe.noOv 100000) 142 100000 ((Xe.partsOf Try.prog 3).drop 12) (s1.setI 11 33) (Xe.resOf' Try.prog 3) = true := by kernel_rfl
set_option maxRecDepth 100000 in
theorem last34 : Xe.lastB Try.prog (Xe.xdraw Try.prog) (Xe.exec Try.prog Xe.noOv 100000) 142 100000 ((Xe.partsOf Try.prog 3).drop 12) (s1.setI 11 34) (Xe.resOf' Try.prog 3) = true := by kernel_rfl
set_option maxRecDepth 100000 in
theorem last35 : Xe.lastB Try.prog (Xe.xdraw Try.prog) (Xe.exec Try.prog Xe.noOv 100000) 142 100000 ((Xe.partsOf Try.prog 3).drop 12) (s1.setI 11 35) (Xe.resOf' Try.prog 3) = true := by kernel_rfl
set_option maxRecDepth 100000 in
theorem last36 : Xe.lastB Try.prog (Xe.xdraw Try.prog) (Xe.exec Try.prog Xe.noOv 100000) 142 100000 ((Xe.partsOf Try.prog 3).drop 12) (s1.setI 11 36) (Xe.resOf' Try.prog 3) = true := by kernel_rfl
set_option maxRecDepth 100000 in
theorem last37 : Xe.lastB Try.prog (Xe.xdraw Try.prog) (Xe.exec Try.prog Xe.noOv 100000) 142 100000 ((Xe.partsOf Try.prog 3).drop 12) (s1.setI 11 37) (Xe.resOf' Try.prog 3) = true := by kernel_rfl
set_option maxRecDepth 100000 in
theorem last38 : Xe.lastB Try.prog (Xe.xdraw Try.prog) (Xe.exec Try.prog Xe.noOv 100000) 142 100000 ((Xe.partsOf Try.prog 3).drop 12) (s1.setI 11 38) (Xe.resOf' Try.prog 3) = true := by kernel_rfl
set_option maxRecDepth 100000 in
theorem last39 : Xe.lastB Try.prog (Xe.xdraw Try.prog) (Xe.exec Try.prog Xe.noOv 100000) 142 100000 ((Xe.partsOf Try.prog 3).drop 12) (s1.setI 11 39) (Xe.resOf' Try.prog 3) = true := by kernel_rfl
end Go.Proofs.Ytcdhfbjbcdekfaa.journalsNil
