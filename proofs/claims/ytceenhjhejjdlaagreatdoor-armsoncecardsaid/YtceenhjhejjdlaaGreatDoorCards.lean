/-
  DERIVED. GIVEN WITH THE SEED: THE CARDS: each row of YtceenhjhejjdlaaGreatDoorRows.lean that lists a variable, with what it lists TIED to the program's text (the seventh form; the later family's looks); each row that meets fmt, with fmt's text TOLD by the authors' own Lean function (tested against real Go, not proved from fmt's source: count such statements apart). THE CARD IS WHAT COUNTS. Prove the row's statement (the work); the ties are given (YtceenhjhejjdlaaGreatDoorTie.lean); close each card by the builder's one call (the guide's Derived/Test/ToyasCard.lean, 'card_holds'). Laid BY PROGRAM, IN A SANDBOX (cutbox-door.mjs). By AI agents, Wed Nov 11 2026. No macro, syntax, notation, axiom, sorry.
-/
import Derived.Test.YtceenhjhejjdlaaGreatDoorRows
import GoSem.ClaimSeven
namespace Go.Proofs.YtceenhjhejjdlaaGreatDoor
namespace Rows

/-- THE TIED CARD OF 'roadkeep1.ArmsOnce'. -/
def armsOnceCard : Claim7 := { stood := { row := armsOnceRow, standIns := [], harness := (true, "b74d4d9d1d995c863f11cf3d532cd9b2d0aa130be9a10a285f1d89abb5c707df"), looks := false }, kinds := [], alts := [], laidByText := true, laidKinds := [.data, .data, .pinned], laidTests := true, laidLooks := .later }
def ArmsOnceCardSaid : Prop := Claim7.holds Tryz.pinned (.plain (OpenSpec.ofChange armsOnceSpec)) armsOnceCard

/-- THE TIED CARD OF 'roadkeep1.ArmsLess'. -/
def armsLessCard : Claim7 := { stood := { row := armsLessRow, standIns := [], harness := (true, "b74d4d9d1d995c863f11cf3d532cd9b2d0aa130be9a10a285f1d89abb5c707df"), looks := false }, kinds := [], alts := [], laidByText := true, laidKinds := [.data, .data, .pinned], laidTests := true, laidLooks := .later }
def ArmsLessCardSaid : Prop := Claim7.holds Tryz.pinned (.plain (OpenSpec.ofChange armsLessSpec)) armsLessCard

/-- THE TIED CARD OF 'roadkeep1.ArmsPick'. -/
def armsPickCard : Claim7 := { stood := { row := armsPickRow, standIns := [], harness := (true, "b74d4d9d1d995c863f11cf3d532cd9b2d0aa130be9a10a285f1d89abb5c707df"), looks := false }, kinds := [], alts := [], laidByText := true, laidKinds := [.data, .data, .pinned], laidTests := true, laidLooks := .later }
def ArmsPickCardSaid : Prop := Claim7.holds Tryz.pinned (.plain (OpenSpec.ofChange armsPickSpec)) armsPickCard

/-- THE SECOND FORM's CARD OF 'roadkeep1.ArmsOnce'. -/
def armsOnceUptoCard : Claim7 := { stood := { row := armsOnceUptoRow, standIns := [], harness := (true, "b74d4d9d1d995c863f11cf3d532cd9b2d0aa130be9a10a285f1d89abb5c707df"), looks := false }, kinds := [], alts := [], laidByText := true, laidKinds := [.data, .data, .pinned], laidTests := true, laidLooks := .later }
def ArmsOnceUptoCardSaid : Prop := Claim7.holds Tryz.pinned (.plain (OpenSpec.upto armsOnceSpec)) armsOnceUptoCard

/-- THE SECOND FORM's CARD OF 'roadkeep1.ArmsLess'. -/
def armsLessUptoCard : Claim7 := { stood := { row := armsLessUptoRow, standIns := [], harness := (true, "b74d4d9d1d995c863f11cf3d532cd9b2d0aa130be9a10a285f1d89abb5c707df"), looks := false }, kinds := [], alts := [], laidByText := true, laidKinds := [.data, .data, .pinned], laidTests := true, laidLooks := .later }
def ArmsLessUptoCardSaid : Prop := Claim7.holds Tryz.pinned (.plain (OpenSpec.upto armsLessSpec)) armsLessUptoCard

/-- THE SECOND FORM's CARD OF 'roadkeep1.ArmsPick'. -/
def armsPickUptoCard : Claim7 := { stood := { row := armsPickUptoRow, standIns := [], harness := (true, "b74d4d9d1d995c863f11cf3d532cd9b2d0aa130be9a10a285f1d89abb5c707df"), looks := false }, kinds := [], alts := [], laidByText := true, laidKinds := [.data, .data, .pinned], laidTests := true, laidLooks := .later }
def ArmsPickUptoCardSaid : Prop := Claim7.holds Tryz.pinned (.plain (OpenSpec.upto armsPickSpec)) armsPickUptoCard
end Rows
end Go.Proofs.YtceenhjhejjdlaaGreatDoor
