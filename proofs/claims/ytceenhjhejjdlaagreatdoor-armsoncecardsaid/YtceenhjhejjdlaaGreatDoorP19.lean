/- The card's closed facts that are the program's alone. MADE BY PROGRAM (facts.py). -/
import Derived.Test.YtceenhjhejjdlaaGreatDoorCards
set_option linter.unusedSimpArgs false
set_option linter.unusedVariables false
namespace Go.Proofs.YtceenhjhejjdlaaGreatDoor
open Go
set_option maxRecDepth 100000
theorem factMain : Tryz.prog.mainIs = some (true, "b74d4d9d1d995c863f11cf3d532cd9b2d0aa130be9a10a285f1d89abb5c707df".toList) := by kernel_rfl
theorem factLooks : false = Tryz.prog.looks [] := by kernel_rfl
theorem factWants : ([3, 22].all fun u => !Tryz.prog.wantsStandIn u) = true := by kernel_rfl
end Go.Proofs.YtceenhjhejjdlaaGreatDoor
