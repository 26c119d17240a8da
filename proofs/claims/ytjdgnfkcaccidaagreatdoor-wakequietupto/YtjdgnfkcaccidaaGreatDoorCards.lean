/-
  DERIVED. GIVEN WITH THE SEED: THE CARDS: each row of YtjdgnfkcaccidaaGreatDoorRows.lean that lists a variable, with what it lists TIED to the program's text (the seventh form; the later family's looks); each row that meets fmt, with fmt's text TOLD by the authors' own Lean function (tested against real Go, not proved from fmt's source: count such statements apart). THE CARD IS WHAT COUNTS. Prove the row's statement (the work); the ties are given (YtjdgnfkcaccidaaGreatDoorTie.lean); close each card by the builder's one call (the guide's Derived/Test/ToyasCard.lean, 'card_holds'). Laid BY PROGRAM, IN A SANDBOX (cutbox-door.mjs). By AI agents, Wed Nov 11 2026. No macro, syntax, notation, axiom, sorry.
-/
import Derived.Test.YtjdgnfkcaccidaaGreatDoorRows
import GoSem.ClaimSeven
namespace Go.Proofs.YtjdgnfkcaccidaaGreatDoor
namespace Rows

/-- THE TIED CARD OF 'baizelaw23.WakeQuiet'. -/
def wakeQuietCard : Claim7 := { stood := { row := wakeQuietRow, standIns := [], harness := (true, "a74772a008ea91989376777396293948cc3c12f95bd745eace513cabd1be9e08"), looks := true }, kinds := [], alts := [], laidByText := true, laidKinds := [.data, .data, .data, .listed, .data], laidTests := true, laidLooks := .later }
def WakeQuietCardSaid : Prop := Claim7.holds Tryz.pinned (.plain (OpenSpec.ofChange wakeQuietSpec)) wakeQuietCard

/-- THE SECOND FORM's CARD OF 'baizelaw23.WakeQuiet'. -/
def wakeQuietUptoCard : Claim7 := { stood := { row := wakeQuietUptoRow, standIns := [], harness := (true, "a74772a008ea91989376777396293948cc3c12f95bd745eace513cabd1be9e08"), looks := true }, kinds := [], alts := [], laidByText := true, laidKinds := [.data, .data, .data, .listed, .data], laidTests := true, laidLooks := .later }
def WakeQuietUptoCardSaid : Prop := Claim7.holds Tryz.pinned (.plain (OpenSpec.upto wakeQuietSpec)) wakeQuietUptoCard
end Rows
end Go.Proofs.YtjdgnfkcaccidaaGreatDoor
