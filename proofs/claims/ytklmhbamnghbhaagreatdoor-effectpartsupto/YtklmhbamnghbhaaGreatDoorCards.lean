/-
  DERIVED. GIVEN WITH THE SEED: THE CARDS: each row of YtklmhbamnghbhaaGreatDoorRows.lean that lists a variable, with what it lists TIED to the program's text (the seventh form; the later family's looks); each row that meets fmt, with fmt's text TOLD by the authors' own Lean function (tested against real Go, not proved from fmt's source: count such statements apart). THE CARD IS WHAT COUNTS. Prove the row's statement (the work); the ties are given (YtklmhbamnghbhaaGreatDoorTie.lean); close each card by the builder's one call (the guide's Derived/Test/ToyasCard.lean, 'card_holds'). Laid BY PROGRAM, IN A SANDBOX (cutbox-door.mjs). By AI agents, Wed Nov 11 2026. No macro, syntax, notation, axiom, sorry.
-/
import Derived.Test.YtklmhbamnghbhaaGreatDoorRows
import GoSem.ClaimSeven
namespace Go.Proofs.YtklmhbamnghbhaaGreatDoor
namespace Rows

/-- THE TIED CARD OF 'baizelaw20.EffectParts'. -/
def effectPartsCard : Claim7 := { stood := { row := effectPartsRow, standIns := [], harness := (true, "098c30a76e1a08da3f2c176ae91c9e91907543b12d6806feb47fcfbdd7ac4967"), looks := true }, kinds := [], alts := [], laidByText := true, laidKinds := [.data, .data, .data, .listed, .data], laidTests := true, laidLooks := .later }
def EffectPartsCardSaid : Prop := Claim7.holds Tryz.pinned (.plain (OpenSpec.ofChange effectPartsSpec)) effectPartsCard

/-- THE SECOND FORM's CARD OF 'baizelaw20.EffectParts'. -/
def effectPartsUptoCard : Claim7 := { stood := { row := effectPartsUptoRow, standIns := [], harness := (true, "098c30a76e1a08da3f2c176ae91c9e91907543b12d6806feb47fcfbdd7ac4967"), looks := true }, kinds := [], alts := [], laidByText := true, laidKinds := [.data, .data, .data, .listed, .data], laidTests := true, laidLooks := .later }
def EffectPartsUptoCardSaid : Prop := Claim7.holds Tryz.pinned (.plain (OpenSpec.upto effectPartsSpec)) effectPartsUptoCard
end Rows
end Go.Proofs.YtklmhbamnghbhaaGreatDoor
