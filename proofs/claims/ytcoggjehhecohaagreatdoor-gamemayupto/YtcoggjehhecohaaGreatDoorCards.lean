/-
  DERIVED. GIVEN WITH THE SEED: THE CARDS: each row of YtcoggjehhecohaaGreatDoorRows.lean that lists a variable, with what it lists TIED to the program's text (the seventh form; the later family's looks); each row that meets fmt, with fmt's text TOLD by the authors' own Lean function (tested against real Go, not proved from fmt's source: count such statements apart). THE CARD IS WHAT COUNTS. Prove the row's statement (the work); the ties are given (YtcoggjehhecohaaGreatDoorTie.lean); close each card by the builder's one call (the guide's Derived/Test/ToyasCard.lean, 'card_holds'). Laid BY PROGRAM, IN A SANDBOX (cutbox-door.mjs). By AI agents, Wed Nov 11 2026. No macro, syntax, notation, axiom, sorry.
-/
import Derived.Test.YtcoggjehhecohaaGreatDoorRows
import GoSem.ClaimSeven
namespace Go.Proofs.YtcoggjehhecohaaGreatDoor
namespace Rows

/-- THE TIED CARD OF 'baizelaw24.GameMay'. -/
def gameMayCard : Claim7 := { stood := { row := gameMayRow, standIns := [], harness := (true, "2065302a3f1937897e8807ad386cb8da1dad465b3d77da4b3d56d39d483a225b"), looks := true }, kinds := [], alts := [], laidByText := true, laidKinds := [.data, .data, .data, .listed, .data], laidTests := true, laidLooks := .later }
def GameMayCardSaid : Prop := Claim7.holds Tryz.pinned (.plain (OpenSpec.ofChange gameMaySpec)) gameMayCard

/-- THE SECOND FORM's CARD OF 'baizelaw24.GameMay'. -/
def gameMayUptoCard : Claim7 := { stood := { row := gameMayUptoRow, standIns := [], harness := (true, "2065302a3f1937897e8807ad386cb8da1dad465b3d77da4b3d56d39d483a225b"), looks := true }, kinds := [], alts := [], laidByText := true, laidKinds := [.data, .data, .data, .listed, .data], laidTests := true, laidLooks := .later }
def GameMayUptoCardSaid : Prop := Claim7.holds Tryz.pinned (.plain (OpenSpec.upto gameMaySpec)) gameMayUptoCard
end Rows
end Go.Proofs.YtcoggjehhecohaaGreatDoor
