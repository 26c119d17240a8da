/-
  DERIVED. GIVEN WITH THE SEED: THE CARDS: each row of YtiplhedaicikiaaGreatDoorRows.lean that lists a variable, with what it lists TIED to the program's text (the seventh form; the later family's looks); each row that meets fmt, with fmt's text TOLD by the authors' own Lean function (tested against real Go, not proved from fmt's source: count such statements apart). THE CARD IS WHAT COUNTS. Prove the row's statement (the work); the ties are given (YtiplhedaicikiaaGreatDoorTie.lean); close each card by the builder's one call (the guide's Derived/Test/ToyasCard.lean, 'card_holds'). Laid BY PROGRAM, IN A SANDBOX (cutbox-door.mjs). By AI agents, Wed Nov 11 2026. No macro, syntax, notation, axiom, sorry.
-/
import Derived.Test.YtiplhedaicikiaaGreatDoorRows
import GoSem.ClaimSeven
namespace Go.Proofs.YtiplhedaicikiaaGreatDoor
namespace Rows

/-- THE TIED CARD OF 'baizelaw23.WakeRests'. -/
def wakeRestsCard : Claim7 := { stood := { row := wakeRestsRow, standIns := [], harness := (true, "7ec8f0ea24eceefc28138f33cc671e4c2fe69066cb1d975c90b7a70abef7e383"), looks := true }, kinds := [], alts := [], laidByText := true, laidKinds := [.data, .data, .data, .listed, .data], laidTests := true, laidLooks := .later }
def WakeRestsCardSaid : Prop := Claim7.holds Tryz.pinned (.plain (OpenSpec.ofChange wakeRestsSpec)) wakeRestsCard

/-- THE TIED CARD OF 'baizelaw23.WakeDawns'. -/
def wakeDawnsCard : Claim7 := { stood := { row := wakeDawnsRow, standIns := [], harness := (true, "7ec8f0ea24eceefc28138f33cc671e4c2fe69066cb1d975c90b7a70abef7e383"), looks := true }, kinds := [], alts := [], laidByText := true, laidKinds := [.data, .data, .data, .listed, .data], laidTests := true, laidLooks := .later }
def WakeDawnsCardSaid : Prop := Claim7.holds Tryz.pinned (.plain (OpenSpec.ofChange wakeDawnsSpec)) wakeDawnsCard

/-- THE SECOND FORM's CARD OF 'baizelaw23.WakeRests'. -/
def wakeRestsUptoCard : Claim7 := { stood := { row := wakeRestsUptoRow, standIns := [], harness := (true, "7ec8f0ea24eceefc28138f33cc671e4c2fe69066cb1d975c90b7a70abef7e383"), looks := true }, kinds := [], alts := [], laidByText := true, laidKinds := [.data, .data, .data, .listed, .data], laidTests := true, laidLooks := .later }
def WakeRestsUptoCardSaid : Prop := Claim7.holds Tryz.pinned (.plain (OpenSpec.upto wakeRestsSpec)) wakeRestsUptoCard

/-- THE SECOND FORM's CARD OF 'baizelaw23.WakeDawns'. -/
def wakeDawnsUptoCard : Claim7 := { stood := { row := wakeDawnsUptoRow, standIns := [], harness := (true, "7ec8f0ea24eceefc28138f33cc671e4c2fe69066cb1d975c90b7a70abef7e383"), looks := true }, kinds := [], alts := [], laidByText := true, laidKinds := [.data, .data, .data, .listed, .data], laidTests := true, laidLooks := .later }
def WakeDawnsUptoCardSaid : Prop := Claim7.holds Tryz.pinned (.plain (OpenSpec.upto wakeDawnsSpec)) wakeDawnsUptoCard
end Rows
end Go.Proofs.YtiplhedaicikiaaGreatDoor
