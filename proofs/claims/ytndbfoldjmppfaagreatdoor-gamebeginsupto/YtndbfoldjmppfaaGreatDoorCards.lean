/-
  DERIVED. GIVEN WITH THE SEED: THE CARDS: each row of YtndbfoldjmppfaaGreatDoorRows.lean that lists a variable, with what it lists TIED to the program's text (the seventh form; the later family's looks); each row that meets fmt, with fmt's text TOLD by the authors' own Lean function (tested against real Go, not proved from fmt's source: count such statements apart). THE CARD IS WHAT COUNTS. Prove the row's statement (the work); the ties are given (YtndbfoldjmppfaaGreatDoorTie.lean); close each card by the builder's one call (the guide's Derived/Test/ToyasCard.lean, 'card_holds'). Laid BY PROGRAM, IN A SANDBOX (cutbox-door.mjs). By AI agents, Wed Nov 11 2026. No macro, syntax, notation, axiom, sorry.
-/
import Derived.Test.YtndbfoldjmppfaaGreatDoorRows
import GoSem.ClaimSeven
namespace Go.Proofs.YtndbfoldjmppfaaGreatDoor
namespace Rows

/-- THE TIED CARD OF 'baizelaw24.GameBegins'. -/
def gameBeginsCard : Claim7 := { stood := { row := gameBeginsRow, standIns := [], harness := (true, "a1d28a8bcab6d6918d003237ee8b77b80f1831a1b23208c50580ae3fbfa1a6c9"), looks := true }, kinds := [], alts := [], laidByText := true, laidKinds := [.data, .data, .data, .listed, .data], laidTests := true, laidLooks := .later }
def GameBeginsCardSaid : Prop := Claim7.holds Tryz.pinned (.plain (OpenSpec.ofChange gameBeginsSpec)) gameBeginsCard

/-- THE SECOND FORM's CARD OF 'baizelaw24.GameBegins'. -/
def gameBeginsUptoCard : Claim7 := { stood := { row := gameBeginsUptoRow, standIns := [], harness := (true, "a1d28a8bcab6d6918d003237ee8b77b80f1831a1b23208c50580ae3fbfa1a6c9"), looks := true }, kinds := [], alts := [], laidByText := true, laidKinds := [.data, .data, .data, .listed, .data], laidTests := true, laidLooks := .later }
def GameBeginsUptoCardSaid : Prop := Claim7.holds Tryz.pinned (.plain (OpenSpec.upto gameBeginsSpec)) gameBeginsUptoCard
end Rows
end Go.Proofs.YtndbfoldjmppfaaGreatDoor
