/-
  DERIVED. GIVEN WITH THE SEED: THE CARDS: each row of YtlpdgidfbmcomaaGreatDoorRows.lean that lists a variable, with what it lists TIED to the program's text (the seventh form; the later family's looks); each row that meets fmt, with fmt's text TOLD by the authors' own Lean function (tested against real Go, not proved from fmt's source: count such statements apart). THE CARD IS WHAT COUNTS. Prove the row's statement (the work); the ties are given (YtlpdgidfbmcomaaGreatDoorTie.lean); close each card by the builder's one call (the guide's Derived/Test/ToyasCard.lean, 'card_holds'). Laid BY PROGRAM, IN A SANDBOX (cutbox-door.mjs). By AI agents, Wed Nov 11 2026. No macro, syntax, notation, axiom, sorry.
-/
import Derived.Test.YtlpdgidfbmcomaaGreatDoorRows
import GoSem.ClaimSeven
namespace Go.Proofs.YtlpdgidfbmcomaaGreatDoor
namespace Rows

/-- THE TIED CARD OF 'baizelaw20.EffectCards'. -/
def effectCardsCard : Claim7 := { stood := { row := effectCardsRow, standIns := [], harness := (true, "7438b4fee8110df3e60321aaeedc656a92aee0073ca0299e6597504c09b88982"), looks := true }, kinds := [], alts := [], laidByText := true, laidKinds := [.data, .data, .data, .listed, .data], laidTests := true, laidLooks := .later }
def EffectCardsCardSaid : Prop := Claim7.holds Tryz.pinned (.plain (OpenSpec.ofChange effectCardsSpec)) effectCardsCard

/-- THE SECOND FORM's CARD OF 'baizelaw20.EffectCards'. -/
def effectCardsUptoCard : Claim7 := { stood := { row := effectCardsUptoRow, standIns := [], harness := (true, "7438b4fee8110df3e60321aaeedc656a92aee0073ca0299e6597504c09b88982"), looks := true }, kinds := [], alts := [], laidByText := true, laidKinds := [.data, .data, .data, .listed, .data], laidTests := true, laidLooks := .later }
def EffectCardsUptoCardSaid : Prop := Claim7.holds Tryz.pinned (.plain (OpenSpec.upto effectCardsSpec)) effectCardsUptoCard
end Rows
end Go.Proofs.YtlpdgidfbmcomaaGreatDoor
