/- The card's closed facts. MADE BY PROGRAM (facts.py). -/
import Derived.Test.YtceenhjhejjdlaaGreatDoorCards
set_option linter.unusedSimpArgs false
set_option linter.unusedVariables false
namespace Go.Proofs.YtceenhjhejjdlaaGreatDoor
open Go
set_option maxRecDepth 100000
theorem factGoes4 : false = Rows.armsLessRow.goesBy Tryz.prog := by kernel_rfl
theorem factText4 : Rows.armsLessRow.wfByText (OpenSpec.ofChange Rows.armsLessSpec) = true := by kernel_rfl
theorem factName4 : Tryz.prog.funcNamed "roadstead/roadkeep1.ArmsLess" = some 4 := by kernel_rfl
end Go.Proofs.YtceenhjhejjdlaaGreatDoor
