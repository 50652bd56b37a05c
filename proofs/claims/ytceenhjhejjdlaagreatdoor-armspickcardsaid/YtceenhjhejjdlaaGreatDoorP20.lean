/- The card's closed facts. MADE BY PROGRAM (facts.py). -/
import Derived.Test.YtceenhjhejjdlaaGreatDoorCards
set_option linter.unusedSimpArgs false
set_option linter.unusedVariables false
namespace Go.Proofs.YtceenhjhejjdlaaGreatDoor
open Go
set_option maxRecDepth 100000
theorem factGoes5 : false = Rows.armsPickRow.goesBy Tryz.prog := by kernel_rfl
theorem factText5 : Rows.armsPickRow.wfByText (OpenSpec.ofChange Rows.armsPickSpec) = true := by kernel_rfl
theorem factName5 : Tryz.prog.funcNamed "roadstead/roadkeep1.ArmsPick" = some 5 := by kernel_rfl
end Go.Proofs.YtceenhjhejjdlaaGreatDoor
