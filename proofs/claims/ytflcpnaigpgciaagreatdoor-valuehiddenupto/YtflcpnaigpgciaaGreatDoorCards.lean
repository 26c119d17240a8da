/-
  DERIVED. GIVEN WITH THE SEED: THE CARDS: each row of YtflcpnaigpgciaaGreatDoorRows.lean that lists a variable, with what it lists TIED to the program's text (the seventh form; the later family's looks); each row that meets fmt, with fmt's text TOLD by the authors' own Lean function (tested against real Go, not proved from fmt's source: count such statements apart). THE CARD IS WHAT COUNTS. Prove the row's statement (the work); the ties are given (YtflcpnaigpgciaaGreatDoorTie.lean); close each card by the builder's one call (the guide's Derived/Test/ToyasCard.lean, 'card_holds'). Laid BY PROGRAM, IN A SANDBOX (cutbox-door.mjs). By AI agents, Wed Nov 11 2026. No macro, syntax, notation, axiom, sorry.
-/
import Derived.Test.YtflcpnaigpgciaaGreatDoorRows
import GoSem.ClaimSeven
namespace Go.Proofs.YtflcpnaigpgciaaGreatDoor
namespace Rows

/-- THE TIED CARD OF 'baizelaw17.ZoneApart'. -/
def zoneApartCard : Claim7 := { stood := { row := zoneApartRow, standIns := [], harness := (true, "dc57617ee4cd6cfcf667e93d70308f479474660d0ce0d0e3ba70da15d5f7d599"), looks := true }, kinds := [], alts := [], laidByText := true, laidKinds := [.listed, .data], laidTests := true, laidLooks := .later }
def ZoneApartCardSaid : Prop := Claim7.holds Tryz.pinned (.plain (OpenSpec.ofChange zoneApartSpec)) zoneApartCard

/-- THE TIED CARD OF 'baizelaw17.ZoneKeeps'. -/
def zoneKeepsCard : Claim7 := { stood := { row := zoneKeepsRow, standIns := [], harness := (true, "dc57617ee4cd6cfcf667e93d70308f479474660d0ce0d0e3ba70da15d5f7d599"), looks := true }, kinds := [], alts := [], laidByText := true, laidKinds := [.listed, .data], laidTests := true, laidLooks := .later }
def ZoneKeepsCardSaid : Prop := Claim7.holds Tryz.pinned (.plain (OpenSpec.ofChange zoneKeepsSpec)) zoneKeepsCard

/-- THE TIED CARD OF 'baizelaw19.ValueHidden'. -/
def valueHiddenCard : Claim7 := { stood := { row := valueHiddenRow, standIns := [], harness := (true, "dc57617ee4cd6cfcf667e93d70308f479474660d0ce0d0e3ba70da15d5f7d599"), looks := true }, kinds := [], alts := [], laidByText := true, laidKinds := [.listed, .data], laidTests := true, laidLooks := .later }
def ValueHiddenCardSaid : Prop := Claim7.holds Tryz.pinned (.plain (OpenSpec.ofChange valueHiddenSpec)) valueHiddenCard

/-- THE TIED CARD OF 'baizelaw21.TurnMay'. -/
def turnMayCard : Claim7 := { stood := { row := turnMayRow, standIns := [], harness := (true, "dc57617ee4cd6cfcf667e93d70308f479474660d0ce0d0e3ba70da15d5f7d599"), looks := true }, kinds := [], alts := [], laidByText := true, laidKinds := [.listed, .data], laidTests := true, laidLooks := .later }
def TurnMayCardSaid : Prop := Claim7.holds Tryz.pinned (.plain (OpenSpec.ofChange turnMaySpec)) turnMayCard

/-- THE TIED CARD OF 'baizelaw21.TurnAll'. -/
def turnAllCard : Claim7 := { stood := { row := turnAllRow, standIns := [], harness := (true, "dc57617ee4cd6cfcf667e93d70308f479474660d0ce0d0e3ba70da15d5f7d599"), looks := true }, kinds := [], alts := [], laidByText := true, laidKinds := [.listed, .data], laidTests := true, laidLooks := .later }
def TurnAllCardSaid : Prop := Claim7.holds Tryz.pinned (.plain (OpenSpec.ofChange turnAllSpec)) turnAllCard

/-- THE TIED CARD OF 'baizelaw21.TurnListed'. -/
def turnListedCard : Claim7 := { stood := { row := turnListedRow, standIns := [], harness := (true, "dc57617ee4cd6cfcf667e93d70308f479474660d0ce0d0e3ba70da15d5f7d599"), looks := true }, kinds := [], alts := [], laidByText := true, laidKinds := [.listed, .data], laidTests := true, laidLooks := .later }
def TurnListedCardSaid : Prop := Claim7.holds Tryz.pinned (.plain (OpenSpec.ofChange turnListedSpec)) turnListedCard

/-- THE TIED CARD OF 'baizelaw21.TurnPays'. -/
def turnPaysCard : Claim7 := { stood := { row := turnPaysRow, standIns := [], harness := (true, "dc57617ee4cd6cfcf667e93d70308f479474660d0ce0d0e3ba70da15d5f7d599"), looks := true }, kinds := [], alts := [], laidByText := true, laidKinds := [.listed, .data], laidTests := true, laidLooks := .later }
def TurnPaysCardSaid : Prop := Claim7.holds Tryz.pinned (.plain (OpenSpec.ofChange turnPaysSpec)) turnPaysCard

/-- THE TIED CARD OF 'baizelaw22.FightBegins'. -/
def fightBeginsCard : Claim7 := { stood := { row := fightBeginsRow, standIns := [], harness := (true, "dc57617ee4cd6cfcf667e93d70308f479474660d0ce0d0e3ba70da15d5f7d599"), looks := true }, kinds := [], alts := [], laidByText := true, laidKinds := [.listed, .data], laidTests := true, laidLooks := .later }
def FightBeginsCardSaid : Prop := Claim7.holds Tryz.pinned (.plain (OpenSpec.ofChange fightBeginsSpec)) fightBeginsCard

/-- THE TIED CARD OF 'baizelaw22.FightEnds'. -/
def fightEndsCard : Claim7 := { stood := { row := fightEndsRow, standIns := [], harness := (true, "dc57617ee4cd6cfcf667e93d70308f479474660d0ce0d0e3ba70da15d5f7d599"), looks := true }, kinds := [], alts := [], laidByText := true, laidKinds := [.listed, .data], laidTests := true, laidLooks := .later }
def FightEndsCardSaid : Prop := Claim7.holds Tryz.pinned (.plain (OpenSpec.ofChange fightEndsSpec)) fightEndsCard

/-- THE TIED CARD OF 'baizelaw22.FightAtOnce'. -/
def fightAtOnceCard : Claim7 := { stood := { row := fightAtOnceRow, standIns := [], harness := (true, "dc57617ee4cd6cfcf667e93d70308f479474660d0ce0d0e3ba70da15d5f7d599"), looks := true }, kinds := [], alts := [], laidByText := true, laidKinds := [.listed, .data], laidTests := true, laidLooks := .later }
def FightAtOnceCardSaid : Prop := Claim7.holds Tryz.pinned (.plain (OpenSpec.ofChange fightAtOnceSpec)) fightAtOnceCard

/-- THE TIED CARD OF 'baizelaw22.FightHarms'. -/
def fightHarmsCard : Claim7 := { stood := { row := fightHarmsRow, standIns := [], harness := (true, "dc57617ee4cd6cfcf667e93d70308f479474660d0ce0d0e3ba70da15d5f7d599"), looks := true }, kinds := [], alts := [], laidByText := true, laidKinds := [.listed, .data], laidTests := true, laidLooks := .later }
def FightHarmsCardSaid : Prop := Claim7.holds Tryz.pinned (.plain (OpenSpec.ofChange fightHarmsSpec)) fightHarmsCard

/-- THE SECOND FORM's CARD OF 'baizelaw17.ZoneApart'. -/
def zoneApartUptoCard : Claim7 := { stood := { row := zoneApartUptoRow, standIns := [], harness := (true, "dc57617ee4cd6cfcf667e93d70308f479474660d0ce0d0e3ba70da15d5f7d599"), looks := true }, kinds := [], alts := [], laidByText := true, laidKinds := [.listed, .data], laidTests := true, laidLooks := .later }
def ZoneApartUptoCardSaid : Prop := Claim7.holds Tryz.pinned (.plain (OpenSpec.upto zoneApartSpec)) zoneApartUptoCard

/-- THE SECOND FORM's CARD OF 'baizelaw17.ZoneKeeps'. -/
def zoneKeepsUptoCard : Claim7 := { stood := { row := zoneKeepsUptoRow, standIns := [], harness := (true, "dc57617ee4cd6cfcf667e93d70308f479474660d0ce0d0e3ba70da15d5f7d599"), looks := true }, kinds := [], alts := [], laidByText := true, laidKinds := [.listed, .data], laidTests := true, laidLooks := .later }
def ZoneKeepsUptoCardSaid : Prop := Claim7.holds Tryz.pinned (.plain (OpenSpec.upto zoneKeepsSpec)) zoneKeepsUptoCard

/-- THE SECOND FORM's CARD OF 'baizelaw19.ValueHidden'. -/
def valueHiddenUptoCard : Claim7 := { stood := { row := valueHiddenUptoRow, standIns := [], harness := (true, "dc57617ee4cd6cfcf667e93d70308f479474660d0ce0d0e3ba70da15d5f7d599"), looks := true }, kinds := [], alts := [], laidByText := true, laidKinds := [.listed, .data], laidTests := true, laidLooks := .later }
def ValueHiddenUptoCardSaid : Prop := Claim7.holds Tryz.pinned (.plain (OpenSpec.upto valueHiddenSpec)) valueHiddenUptoCard

/-- THE SECOND FORM's CARD OF 'baizelaw21.TurnMay'. -/
def turnMayUptoCard : Claim7 := { stood := { row := turnMayUptoRow, standIns := [], harness := (true, "dc57617ee4cd6cfcf667e93d70308f479474660d0ce0d0e3ba70da15d5f7d599"), looks := true }, kinds := [], alts := [], laidByText := true, laidKinds := [.listed, .data], laidTests := true, laidLooks := .later }
def TurnMayUptoCardSaid : Prop := Claim7.holds Tryz.pinned (.plain (OpenSpec.upto turnMaySpec)) turnMayUptoCard

/-- THE SECOND FORM's CARD OF 'baizelaw21.TurnAll'. -/
def turnAllUptoCard : Claim7 := { stood := { row := turnAllUptoRow, standIns := [], harness := (true, "dc57617ee4cd6cfcf667e93d70308f479474660d0ce0d0e3ba70da15d5f7d599"), looks := true }, kinds := [], alts := [], laidByText := true, laidKinds := [.listed, .data], laidTests := true, laidLooks := .later }
def TurnAllUptoCardSaid : Prop := Claim7.holds Tryz.pinned (.plain (OpenSpec.upto turnAllSpec)) turnAllUptoCard

/-- THE SECOND FORM's CARD OF 'baizelaw21.TurnListed'. -/
def turnListedUptoCard : Claim7 := { stood := { row := turnListedUptoRow, standIns := [], harness := (true, "dc57617ee4cd6cfcf667e93d70308f479474660d0ce0d0e3ba70da15d5f7d599"), looks := true }, kinds := [], alts := [], laidByText := true, laidKinds := [.listed, .data], laidTests := true, laidLooks := .later }
def TurnListedUptoCardSaid : Prop := Claim7.holds Tryz.pinned (.plain (OpenSpec.upto turnListedSpec)) turnListedUptoCard

/-- THE SECOND FORM's CARD OF 'baizelaw21.TurnPays'. -/
def turnPaysUptoCard : Claim7 := { stood := { row := turnPaysUptoRow, standIns := [], harness := (true, "dc57617ee4cd6cfcf667e93d70308f479474660d0ce0d0e3ba70da15d5f7d599"), looks := true }, kinds := [], alts := [], laidByText := true, laidKinds := [.listed, .data], laidTests := true, laidLooks := .later }
def TurnPaysUptoCardSaid : Prop := Claim7.holds Tryz.pinned (.plain (OpenSpec.upto turnPaysSpec)) turnPaysUptoCard

/-- THE SECOND FORM's CARD OF 'baizelaw22.FightBegins'. -/
def fightBeginsUptoCard : Claim7 := { stood := { row := fightBeginsUptoRow, standIns := [], harness := (true, "dc57617ee4cd6cfcf667e93d70308f479474660d0ce0d0e3ba70da15d5f7d599"), looks := true }, kinds := [], alts := [], laidByText := true, laidKinds := [.listed, .data], laidTests := true, laidLooks := .later }
def FightBeginsUptoCardSaid : Prop := Claim7.holds Tryz.pinned (.plain (OpenSpec.upto fightBeginsSpec)) fightBeginsUptoCard

/-- THE SECOND FORM's CARD OF 'baizelaw22.FightEnds'. -/
def fightEndsUptoCard : Claim7 := { stood := { row := fightEndsUptoRow, standIns := [], harness := (true, "dc57617ee4cd6cfcf667e93d70308f479474660d0ce0d0e3ba70da15d5f7d599"), looks := true }, kinds := [], alts := [], laidByText := true, laidKinds := [.listed, .data], laidTests := true, laidLooks := .later }
def FightEndsUptoCardSaid : Prop := Claim7.holds Tryz.pinned (.plain (OpenSpec.upto fightEndsSpec)) fightEndsUptoCard

/-- THE SECOND FORM's CARD OF 'baizelaw22.FightAtOnce'. -/
def fightAtOnceUptoCard : Claim7 := { stood := { row := fightAtOnceUptoRow, standIns := [], harness := (true, "dc57617ee4cd6cfcf667e93d70308f479474660d0ce0d0e3ba70da15d5f7d599"), looks := true }, kinds := [], alts := [], laidByText := true, laidKinds := [.listed, .data], laidTests := true, laidLooks := .later }
def FightAtOnceUptoCardSaid : Prop := Claim7.holds Tryz.pinned (.plain (OpenSpec.upto fightAtOnceSpec)) fightAtOnceUptoCard

/-- THE SECOND FORM's CARD OF 'baizelaw22.FightHarms'. -/
def fightHarmsUptoCard : Claim7 := { stood := { row := fightHarmsUptoRow, standIns := [], harness := (true, "dc57617ee4cd6cfcf667e93d70308f479474660d0ce0d0e3ba70da15d5f7d599"), looks := true }, kinds := [], alts := [], laidByText := true, laidKinds := [.listed, .data], laidTests := true, laidLooks := .later }
def FightHarmsUptoCardSaid : Prop := Claim7.holds Tryz.pinned (.plain (OpenSpec.upto fightHarmsSpec)) fightHarmsUptoCard
end Rows
end Go.Proofs.YtflcpnaigpgciaaGreatDoor
