/-
  What is proved: the executor runs the rest of the law JournalsNil from that state to its end, which is true, for some values of the integer that it has computed.
  Conditions: none.
-/
import Derived.Test.YtcdhfbjbcdekfaaJournalsNilFirst
namespace Go.Proofs.Ytcdhfbjbcdekfaa.journalsNil
open Go.RowKit
set_option maxRecDepth 100000 in
theorem last50 : Xe.lastB Try.prog (Xe.xdraw Try.prog) (Xe.exec Try.prog Xe.noOv 100000) 142 100000 ((Xe.partsOf Try.prog 3).drop 12) (s1.setI 11 50) (Xe.resOf' Try.prog 3) = true := by kernel_rfl
set_option maxRecDepth 100000 in
theorem last51 : Xe.lastB Try.prog (Xe.xdraw Try.prog) (Xe.exec Try.prog Xe.noOv 100000) 142 100000 ((Xe.partsOf Try.prog 3).drop 12) (s1.setI 11 51) (Xe.resOf' Try.prog 3) = true := by kernel_rfl
set_option maxRecDepth 100000 in
theorem last52 : Xe.lastB Try.prog (Xe.xdraw Try.prog) (Xe.exec Try.prog Xe.noOv 100000) 142 100000 ((Xe.partsOf Try.prog 3).drop 12) (s1.setI 11 52) (Xe.resOf' Try.prog 3) = true := by kernel_rfl
set_option maxRecDepth 100000 in
theorem last53 : Xe.lastB Try.prog (Xe.xdraw Try.prog) (Xe.exec Try.prog Xe.noOv 100000) 142 100000 ((Xe.partsOf Try.prog 3).drop 12) (s1.setI 11 53) (Xe.resOf' Try.prog 3) = true := by kernel_rfl
set_option maxRecDepth 100000 in
theorem last54 : Xe.lastB Try.prog (Xe.xdraw Try.prog) (Xe.exec Try.prog Xe.noOv 100000) 142 100000 ((Xe.partsOf Try.prog 3).drop 12) (s1.setI 11 54) (Xe.resOf' Try.prog 3) = true := by kernel_rfl
set_option maxRecDepth 100000 in
theorem last55 : Xe.lastB Try.prog (Xe.xdraw Try.prog) (Xe.exec Try.prog Xe.noOv 100000) 142 100000 ((Xe.partsOf Try.prog 3).drop 12) (s1.setI 11 55) (Xe.resOf' Try.prog 3) = true := by kernel_rfl
set_option maxRecDepth 100000 in
theorem last56 : Xe.lastB Try.prog (Xe.xdraw Try.prog) (Xe.exec Try.prog Xe.noOv 100000) 142 100000 ((Xe.partsOf Try.prog 3).drop 12) (s1.setI 11 56) (Xe.resOf' Try.prog 3) = true := by kernel_rfl
set_option maxRecDepth 100000 in
theorem last57 : Xe.lastB Try.prog (Xe.xdraw Try.prog) (Xe.exec Try.prog Xe.noOv 100000) 142 100000 ((Xe.partsOf Try.prog 3).drop 12) (s1.setI 11 57) (Xe.resOf' Try.prog 3) = true := by kernel_rfl
set_option maxRecDepth 100000 in
theorem last58 : Xe.lastB Try.prog (Xe.xdraw Try.prog) (Xe.exec Try.prog Xe.noOv 100000) 142 100000 ((Xe.partsOf Try.prog 3).drop 12) (s1.setI 11 58) (Xe.resOf' Try.prog 3) = true := by kernel_rfl
set_option maxRecDepth 100000 in
theorem last59 : Xe.lastB Try.prog (Xe.xdraw Try.prog) (Xe.exec Try.prog Xe.noOv 100000) 142 100000 ((Xe.partsOf Try.prog 3).drop 12) (s1.setI 11 59) (Xe.resOf' Try.prog 3) = true := by kernel_rfl
end Go.Proofs.Ytcdhfbjbcdekfaa.journalsNil
