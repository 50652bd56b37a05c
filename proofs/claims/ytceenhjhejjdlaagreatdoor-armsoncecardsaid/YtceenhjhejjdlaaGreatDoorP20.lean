/- The card's closed facts. MADE BY PROGRAM (facts.py). -/
import Derived.Test.YtceenhjhejjdlaaGreatDoorCards
set_option linter.unusedSimpArgs false
set_option linter.unusedVariables false
namespace Go.Proofs.YtceenhjhejjdlaaGreatDoor
open Go
set_option maxRecDepth 100000
theorem factGoes3 : false = Rows.armsOnceRow.goesBy Tryz.prog := by kernel_rfl
theorem factText3 : Rows.armsOnceRow.wfByText (OpenSpec.ofChange Rows.armsOnceSpec) = true := by kernel_rfl
theorem factName3 : Tryz.prog.funcNamed "roadstead/roadkeep1.ArmsOnce" = some 3 := by kernel_rfl
end Go.Proofs.YtceenhjhejjdlaaGreatDoor
