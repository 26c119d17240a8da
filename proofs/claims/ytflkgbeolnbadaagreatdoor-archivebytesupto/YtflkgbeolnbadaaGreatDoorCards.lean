/-
  DERIVED. GIVEN WITH THE SEED: THE CARDS: each row of YtflkgbeolnbadaaGreatDoorRows.lean that lists a variable, with what it lists TIED to the program's text (the seventh form; the later family's looks); each row that meets fmt, with fmt's text TOLD by the authors' own Lean function (tested against real Go, not proved from fmt's source: count such statements apart). THE CARD IS WHAT COUNTS. Prove the row's statement (the work); the ties are given (YtflkgbeolnbadaaGreatDoorTie.lean); close each card by the builder's one call (the guide's Derived/Test/ToyasCard.lean, 'card_holds'). Laid BY PROGRAM, IN A SANDBOX (cutbox-door.mjs). By AI agents, Wed Nov 11 2026. No macro, syntax, notation, axiom, sorry.
-/
import Derived.Test.YtflkgbeolnbadaaGreatDoorRows
import GoSem.ClaimSeven
namespace Go.Proofs.YtflkgbeolnbadaaGreatDoor
namespace Rows

/-- THE TIED CARD OF 'baizelaw28.ArchiveBytes'. -/
def archiveBytesCard : Claim7 := { stood := { row := archiveBytesRow, standIns := [], harness := (true, "acf292d7f9278c087674e457aa10bb614deeec5a1eab078892fd3a175a820b3b"), looks := true }, kinds := [], alts := [], laidByText := true, laidKinds := [.data, .data, .data, .listed, .data], laidTests := true, laidLooks := .later }
def ArchiveBytesCardSaid : Prop := Claim7.holds Tryz.pinned (.plain (OpenSpec.ofChange archiveBytesSpec)) archiveBytesCard

/-- THE TIED CARD OF 'baizelaw28.ArchiveBack'. -/
def archiveBackCard : Claim7 := { stood := { row := archiveBackRow, standIns := [], harness := (true, "acf292d7f9278c087674e457aa10bb614deeec5a1eab078892fd3a175a820b3b"), looks := true }, kinds := [], alts := [], laidByText := true, laidKinds := [.data, .data, .data, .listed, .data], laidTests := true, laidLooks := .later }
def ArchiveBackCardSaid : Prop := Claim7.holds Tryz.pinned (.plain (OpenSpec.ofChange archiveBackSpec)) archiveBackCard

/-- THE SECOND FORM's CARD OF 'baizelaw28.ArchiveBytes'. -/
def archiveBytesUptoCard : Claim7 := { stood := { row := archiveBytesUptoRow, standIns := [], harness := (true, "acf292d7f9278c087674e457aa10bb614deeec5a1eab078892fd3a175a820b3b"), looks := true }, kinds := [], alts := [], laidByText := true, laidKinds := [.data, .data, .data, .listed, .data], laidTests := true, laidLooks := .later }
def ArchiveBytesUptoCardSaid : Prop := Claim7.holds Tryz.pinned (.plain (OpenSpec.upto archiveBytesSpec)) archiveBytesUptoCard

/-- THE SECOND FORM's CARD OF 'baizelaw28.ArchiveBack'. -/
def archiveBackUptoCard : Claim7 := { stood := { row := archiveBackUptoRow, standIns := [], harness := (true, "acf292d7f9278c087674e457aa10bb614deeec5a1eab078892fd3a175a820b3b"), looks := true }, kinds := [], alts := [], laidByText := true, laidKinds := [.data, .data, .data, .listed, .data], laidTests := true, laidLooks := .later }
def ArchiveBackUptoCardSaid : Prop := Claim7.holds Tryz.pinned (.plain (OpenSpec.upto archiveBackSpec)) archiveBackUptoCard
end Rows
end Go.Proofs.YtflkgbeolnbadaaGreatDoor
