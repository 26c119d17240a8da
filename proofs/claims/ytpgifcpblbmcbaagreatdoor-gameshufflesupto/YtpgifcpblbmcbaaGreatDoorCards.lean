/-
  DERIVED. GIVEN WITH THE SEED: THE CARDS: each row of YtpgifcpblbmcbaaGreatDoorRows.lean that lists a variable, with what it lists TIED to the program's text (the seventh form; the later family's looks); each row that meets fmt, with fmt's text TOLD by the authors' own Lean function (tested against real Go, not proved from fmt's source: count such statements apart). THE CARD IS WHAT COUNTS. Prove the row's statement (the work); the ties are given (YtpgifcpblbmcbaaGreatDoorTie.lean); close each card by the builder's one call (the guide's Derived/Test/ToyasCard.lean, 'card_holds'). Laid BY PROGRAM, IN A SANDBOX (cutbox-door.mjs). By AI agents, Wed Nov 11 2026. No macro, syntax, notation, axiom, sorry.
-/
import Derived.Test.YtpgifcpblbmcbaaGreatDoorRows
import GoSem.ClaimSeven
namespace Go.Proofs.YtpgifcpblbmcbaaGreatDoor
namespace Rows

/-- THE TIED CARD OF 'baizelaw24.GameShuffles'. -/
def gameShufflesCard : Claim7 := { stood := { row := gameShufflesRow, standIns := [], harness := (true, "23a0abf108e6622a2ea0b16cea0806ac69b8c29e3cd953dc6a790d044f73c634"), looks := true }, kinds := [], alts := [], laidByText := true, laidKinds := [.data, .data, .data, .listed, .data], laidTests := true, laidLooks := .later }
def GameShufflesCardSaid : Prop := Claim7.holds Tryz.pinned (.plain (OpenSpec.ofChange gameShufflesSpec)) gameShufflesCard

/-- THE SECOND FORM's CARD OF 'baizelaw24.GameShuffles'. -/
def gameShufflesUptoCard : Claim7 := { stood := { row := gameShufflesUptoRow, standIns := [], harness := (true, "23a0abf108e6622a2ea0b16cea0806ac69b8c29e3cd953dc6a790d044f73c634"), looks := true }, kinds := [], alts := [], laidByText := true, laidKinds := [.data, .data, .data, .listed, .data], laidTests := true, laidLooks := .later }
def GameShufflesUptoCardSaid : Prop := Claim7.holds Tryz.pinned (.plain (OpenSpec.upto gameShufflesSpec)) gameShufflesUptoCard
end Rows
end Go.Proofs.YtpgifcpblbmcbaaGreatDoor
