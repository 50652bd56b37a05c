/- The row's closed facts that are the program's alone. MADE BY PROGRAM (facts.py). -/
import Derived.Test.YtceenhjhejjdlaaGreatDoorRows
import Derived.JoinedOf
set_option linter.unusedSimpArgs false
set_option linter.unusedVariables false
namespace Go.Proofs.YtceenhjhejjdlaaGreatDoor
open Go
set_option maxRecDepth 100000
theorem and_t {a b : Bool} (ha : a = true) (hb : b = true) : (a && b) = true := by rw [ha, hb]; rfl
theorem factP_1 : laidOutB Tryz.prog = true := by kernel_rfl
theorem factP_2 : mapsRowed Tryz.prog = true := by kernel_rfl
theorem factP_6 : (Tryz.prog.stops == []) = true := by kernel_rfl
theorem factP_8 : (Tryz.prog.stopKnobs == []) = true := by kernel_rfl
theorem factP_24 : Tryz.prog.stopsHeard = true := by kernel_rfl
theorem factP_25 : Tryz.prog.mayEnter = true := by kernel_rfl
end Go.Proofs.YtceenhjhejjdlaaGreatDoor
