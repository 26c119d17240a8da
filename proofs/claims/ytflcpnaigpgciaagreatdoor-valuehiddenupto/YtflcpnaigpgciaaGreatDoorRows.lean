/-
  NARROWER THAN 'FOR EVERY INPUT', by the rows' own cells (each row's printed sentence says how): ZoneApart: loops, laid · ZoneKeeps: loops, laid · ValueHidden: loops, laid · TurnMay: loops, laid · TurnAll: loops, laid · TurnListed: loops, laid · TurnPays: loops, laid · FightBegins: loops, laid · FightEnds: loops, laid · FightAtOnce: loops, laid · FightHarms: loops, laid.
  DERIVED. THE GIVEN ROWS OF THIS SEAT. 11 by the template 'for every input the law returns true; each argument reads behind the call as it read before'; 0 by the template 'total and deterministic' (their statements: YtflcpnaigpgciaaGreatDoorTotals.lean).
  GIVEN WITH THE SEED: the statements are not yours to turn. If you find one false, say at which input.
  Laid BY PROGRAM, IN A SANDBOX (cutbox-rows.mjs): the forced cells as the released guide's own fill.sh prints them over the translation e31db2dd05280f33… (all of the seat's roots in one cut). By AI agents, Wed Nov 11 2026. No macro, syntax, notation, axiom, sorry.
-/
import Derived.Test.YtflcpnaigpgciaaGreatDoorChecked
import GoSem.Claim
import GoSem.ClaimJoined
import GoSem.ClaimMapViews
import Derived.JoinedTies
import Derived.KernelRfl
namespace Go.Proofs.YtflcpnaigpgciaaGreatDoor
/- THE CELL 'sum', in the pinned program and in every row, IS THE sha256 OF THE DUMP (.gsa) THAT YtflcpnaigpgciaaGreatDoorProg.lean LOADS. Nothing in Lean hashes anything: it is a label: what it is worth is what the hold of that sum in a sandbox is worth. -/
noncomputable def Tryz.pinned : Pinned := { name := "ytflcpnaigpgciaagreatdoor", sum := "e31db2dd05280f33df8d970c2aa7709df92216587a939171f17bc2fccd21810a", checked := Tryz.checked }
namespace Rows
def none {H : Type} : Left H := { results := [], args := [] }

/- WHAT THE LISTED PACKAGE-LEVEL VARIABLES READ AS WHEN THE CALL BEGINS. Each datum BY PROGRAM (the guide's laid-datum.mjs) off the statement by which the dump's own 'gosem.cut.vars' lays the variable. In a bare row this is a premise. The card (YtflcpnaigpgciaaGreatDoorCards.lean) ties it to the program's text. -/
def laid_unicode_White_Space {H : Type} : DataW H := .ptr (.agg [.slice [.agg [.lit (.int .u16 9), .lit (.int .u16 13), .lit (.int .u16 1)], .agg [.lit (.int .u16 32), .lit (.int .u16 133), .lit (.int .u16 101)], .agg [.lit (.int .u16 160), .lit (.int .u16 5760), .lit (.int .u16 5600)], .agg [.lit (.int .u16 8192), .lit (.int .u16 8202), .lit (.int .u16 1)], .agg [.lit (.int .u16 8232), .lit (.int .u16 8233), .lit (.int .u16 1)], .agg [.lit (.int .u16 8239), .lit (.int .u16 8287), .lit (.int .u16 48)], .agg [.lit (.int .u16 12288), .lit (.int .u16 12288), .lit (.int .u16 1)]] [], .nil, .lit (.int .i64 2)])
def laid_strings_asciiSpace {H : Type} : DataW H := .agg [.lit (.int .u8 0), .lit (.int .u8 0), .lit (.int .u8 0), .lit (.int .u8 0), .lit (.int .u8 0), .lit (.int .u8 0), .lit (.int .u8 0), .lit (.int .u8 0), .lit (.int .u8 0), .lit (.int .u8 1), .lit (.int .u8 1), .lit (.int .u8 1), .lit (.int .u8 1), .lit (.int .u8 1), .lit (.int .u8 0), .lit (.int .u8 0), .lit (.int .u8 0), .lit (.int .u8 0), .lit (.int .u8 0), .lit (.int .u8 0), .lit (.int .u8 0), .lit (.int .u8 0), .lit (.int .u8 0), .lit (.int .u8 0), .lit (.int .u8 0), .lit (.int .u8 0), .lit (.int .u8 0), .lit (.int .u8 0), .lit (.int .u8 0), .lit (.int .u8 0), .lit (.int .u8 0), .lit (.int .u8 0), .lit (.int .u8 1), .lit (.int .u8 0), .lit (.int .u8 0), .lit (.int .u8 0), .lit (.int .u8 0), .lit (.int .u8 0), .lit (.int .u8 0), .lit (.int .u8 0), .lit (.int .u8 0), .lit (.int .u8 0), .lit (.int .u8 0), .lit (.int .u8 0), .lit (.int .u8 0), .lit (.int .u8 0), .lit (.int .u8 0), .lit (.int .u8 0), .lit (.int .u8 0), .lit (.int .u8 0), .lit (.int .u8 0), .lit (.int .u8 0), .lit (.int .u8 0), .lit (.int .u8 0), .lit (.int .u8 0), .lit (.int .u8 0), .lit (.int .u8 0), .lit (.int .u8 0), .lit (.int .u8 0), .lit (.int .u8 0), .lit (.int .u8 0), .lit (.int .u8 0), .lit (.int .u8 0), .lit (.int .u8 0), .lit (.int .u8 0), .lit (.int .u8 0), .lit (.int .u8 0), .lit (.int .u8 0), .lit (.int .u8 0), .lit (.int .u8 0), .lit (.int .u8 0), .lit (.int .u8 0), .lit (.int .u8 0), .lit (.int .u8 0), .lit (.int .u8 0), .lit (.int .u8 0), .lit (.int .u8 0), .lit (.int .u8 0), .lit (.int .u8 0), .lit (.int .u8 0), .lit (.int .u8 0), .lit (.int .u8 0), .lit (.int .u8 0), .lit (.int .u8 0), .lit (.int .u8 0), .lit (.int .u8 0), .lit (.int .u8 0), .lit (.int .u8 0), .lit (.int .u8 0), .lit (.int .u8 0), .lit (.int .u8 0), .lit (.int .u8 0), .lit (.int .u8 0), .lit (.int .u8 0), .lit (.int .u8 0), .lit (.int .u8 0), .lit (.int .u8 0), .lit (.int .u8 0), .lit (.int .u8 0), .lit (.int .u8 0), .lit (.int .u8 0), .lit (.int .u8 0), .lit (.int .u8 0), .lit (.int .u8 0), .lit (.int .u8 0), .lit (.int .u8 0), .lit (.int .u8 0), .lit (.int .u8 0), .lit (.int .u8 0), .lit (.int .u8 0), .lit (.int .u8 0), .lit (.int .u8 0), .lit (.int .u8 0), .lit (.int .u8 0), .lit (.int .u8 0), .lit (.int .u8 0), .lit (.int .u8 0), .lit (.int .u8 0), .lit (.int .u8 0), .lit (.int .u8 0), .lit (.int .u8 0), .lit (.int .u8 0), .lit (.int .u8 0), .lit (.int .u8 0), .lit (.int .u8 0), .lit (.int .u8 0), .lit (.int .u8 0), .lit (.int .u8 0), .lit (.int .u8 0), .lit (.int .u8 0), .lit (.int .u8 0), .lit (.int .u8 0), .lit (.int .u8 0), .lit (.int .u8 0), .lit (.int .u8 0), .lit (.int .u8 0), .lit (.int .u8 0), .lit (.int .u8 0), .lit (.int .u8 0), .lit (.int .u8 0), .lit (.int .u8 0), .lit (.int .u8 0), .lit (.int .u8 0), .lit (.int .u8 0), .lit (.int .u8 0), .lit (.int .u8 0), .lit (.int .u8 0), .lit (.int .u8 0), .lit (.int .u8 0), .lit (.int .u8 0), .lit (.int .u8 0), .lit (.int .u8 0), .lit (.int .u8 0), .lit (.int .u8 0), .lit (.int .u8 0), .lit (.int .u8 0), .lit (.int .u8 0), .lit (.int .u8 0), .lit (.int .u8 0), .lit (.int .u8 0), .lit (.int .u8 0), .lit (.int .u8 0), .lit (.int .u8 0), .lit (.int .u8 0), .lit (.int .u8 0), .lit (.int .u8 0), .lit (.int .u8 0), .lit (.int .u8 0), .lit (.int .u8 0), .lit (.int .u8 0), .lit (.int .u8 0), .lit (.int .u8 0), .lit (.int .u8 0), .lit (.int .u8 0), .lit (.int .u8 0), .lit (.int .u8 0), .lit (.int .u8 0), .lit (.int .u8 0), .lit (.int .u8 0), .lit (.int .u8 0), .lit (.int .u8 0), .lit (.int .u8 0), .lit (.int .u8 0), .lit (.int .u8 0), .lit (.int .u8 0), .lit (.int .u8 0), .lit (.int .u8 0), .lit (.int .u8 0), .lit (.int .u8 0), .lit (.int .u8 0), .lit (.int .u8 0), .lit (.int .u8 0), .lit (.int .u8 0), .lit (.int .u8 0), .lit (.int .u8 0), .lit (.int .u8 0), .lit (.int .u8 0), .lit (.int .u8 0), .lit (.int .u8 0), .lit (.int .u8 0), .lit (.int .u8 0), .lit (.int .u8 0), .lit (.int .u8 0), .lit (.int .u8 0), .lit (.int .u8 0), .lit (.int .u8 0), .lit (.int .u8 0), .lit (.int .u8 0), .lit (.int .u8 0), .lit (.int .u8 0), .lit (.int .u8 0), .lit (.int .u8 0), .lit (.int .u8 0), .lit (.int .u8 0), .lit (.int .u8 0), .lit (.int .u8 0), .lit (.int .u8 0), .lit (.int .u8 0), .lit (.int .u8 0), .lit (.int .u8 0), .lit (.int .u8 0), .lit (.int .u8 0), .lit (.int .u8 0), .lit (.int .u8 0), .lit (.int .u8 0), .lit (.int .u8 0), .lit (.int .u8 0), .lit (.int .u8 0), .lit (.int .u8 0), .lit (.int .u8 0), .lit (.int .u8 0), .lit (.int .u8 0), .lit (.int .u8 0), .lit (.int .u8 0), .lit (.int .u8 0), .lit (.int .u8 0), .lit (.int .u8 0), .lit (.int .u8 0), .lit (.int .u8 0), .lit (.int .u8 0), .lit (.int .u8 0), .lit (.int .u8 0), .lit (.int .u8 0), .lit (.int .u8 0), .lit (.int .u8 0), .lit (.int .u8 0), .lit (.int .u8 0), .lit (.int .u8 0), .lit (.int .u8 0), .lit (.int .u8 0), .lit (.int .u8 0), .lit (.int .u8 0), .lit (.int .u8 0), .lit (.int .u8 0), .lit (.int .u8 0), .lit (.int .u8 0)]

/-- 'baizelaw17.ZoneApart': WHATEVER THE INPUT: true; the input reads as it did. -/
def zoneApartSpec : ChangeSpec := { name := "zoneApart", fn := fun _ => fun
  | [d1, d2, d3, d4, d5, d6] => { results := [.lit (.bool true)], args := [d1, d2, d3, d4, d5, d6] }
  | _ => none }
def zoneApartRow : OpenClaim := { program := "ytflcpnaigpgciaagreatdoor", sum := "e31db2dd05280f33df8d970c2aa7709df92216587a939171f17bc2fccd21810a", func := "baize/baizelaw17.ZoneApart", spec := "zoneApart", unfollowed := true, recurses := true, named := ["strings.asciiSpace", "unicode.White_Space"], loops := true, apart := false, laid := [("unicode.White_Space", laid_unicode_White_Space), ("strings.asciiSpace", laid_strings_asciiSpace)] }
def ZoneApartSaid : Prop := zoneApartRow.holds Tryz.pinned (OpenSpec.ofChange zoneApartSpec)

/-- ITS FALSE NEIGHBOUR: 'it returns false'. Refute it at one input. -/
def zoneApartWrong : ChangeSpec := { name := "zoneApart", fn := fun _ => fun
  | [d1, d2, d3, d4, d5, d6] => { results := [.lit (.bool false)], args := [d1, d2, d3, d4, d5, d6] }
  | _ => none }
def ZoneApartWrongFalsely : Prop := zoneApartRow.holds Tryz.pinned (OpenSpec.ofChange zoneApartWrong)

/-- 'baizelaw17.ZoneKeeps': WHATEVER THE INPUT: true; the input reads as it did. -/
def zoneKeepsSpec : ChangeSpec := { name := "zoneKeeps", fn := fun _ => fun
  | [d1, d2, d3, d4, d5, d6] => { results := [.lit (.bool true)], args := [d1, d2, d3, d4, d5, d6] }
  | _ => none }
def zoneKeepsRow : OpenClaim := { program := "ytflcpnaigpgciaagreatdoor", sum := "e31db2dd05280f33df8d970c2aa7709df92216587a939171f17bc2fccd21810a", func := "baize/baizelaw17.ZoneKeeps", spec := "zoneKeeps", unfollowed := true, recurses := true, named := ["strings.asciiSpace", "unicode.White_Space"], loops := true, apart := false, laid := [("unicode.White_Space", laid_unicode_White_Space), ("strings.asciiSpace", laid_strings_asciiSpace)] }
def ZoneKeepsSaid : Prop := zoneKeepsRow.holds Tryz.pinned (OpenSpec.ofChange zoneKeepsSpec)

/-- ITS FALSE NEIGHBOUR: 'it returns false'. Refute it at one input. -/
def zoneKeepsWrong : ChangeSpec := { name := "zoneKeeps", fn := fun _ => fun
  | [d1, d2, d3, d4, d5, d6] => { results := [.lit (.bool false)], args := [d1, d2, d3, d4, d5, d6] }
  | _ => none }
def ZoneKeepsWrongFalsely : Prop := zoneKeepsRow.holds Tryz.pinned (OpenSpec.ofChange zoneKeepsWrong)

/-- 'baizelaw19.ValueHidden': WHATEVER THE INPUT: true; the input reads as it did. -/
def valueHiddenSpec : ChangeSpec := { name := "valueHidden", fn := fun _ => fun
  | [d1, d2, d3, d4, d5] => { results := [.lit (.bool true)], args := [d1, d2, d3, d4, d5] }
  | _ => none }
def valueHiddenRow : OpenClaim := { program := "ytflcpnaigpgciaagreatdoor", sum := "e31db2dd05280f33df8d970c2aa7709df92216587a939171f17bc2fccd21810a", func := "baize/baizelaw19.ValueHidden", spec := "valueHidden", unfollowed := true, recurses := true, named := ["strings.asciiSpace", "unicode.White_Space"], loops := true, apart := false, laid := [("unicode.White_Space", laid_unicode_White_Space), ("strings.asciiSpace", laid_strings_asciiSpace)] }
def ValueHiddenSaid : Prop := valueHiddenRow.holds Tryz.pinned (OpenSpec.ofChange valueHiddenSpec)

/-- ITS FALSE NEIGHBOUR: 'it returns false'. Refute it at one input. -/
def valueHiddenWrong : ChangeSpec := { name := "valueHidden", fn := fun _ => fun
  | [d1, d2, d3, d4, d5] => { results := [.lit (.bool false)], args := [d1, d2, d3, d4, d5] }
  | _ => none }
def ValueHiddenWrongFalsely : Prop := valueHiddenRow.holds Tryz.pinned (OpenSpec.ofChange valueHiddenWrong)

/-- 'baizelaw21.TurnMay': WHATEVER THE INPUT: true; the input reads as it did. -/
def turnMaySpec : ChangeSpec := { name := "turnMay", fn := fun _ => fun
  | [d1, d2, d3] => { results := [.lit (.bool true)], args := [d1, d2, d3] }
  | _ => none }
def turnMayRow : OpenClaim := { program := "ytflcpnaigpgciaagreatdoor", sum := "e31db2dd05280f33df8d970c2aa7709df92216587a939171f17bc2fccd21810a", func := "baize/baizelaw21.TurnMay", spec := "turnMay", unfollowed := true, recurses := true, named := ["strings.asciiSpace", "unicode.White_Space"], loops := true, apart := false, laid := [("unicode.White_Space", laid_unicode_White_Space), ("strings.asciiSpace", laid_strings_asciiSpace)] }
def TurnMaySaid : Prop := turnMayRow.holds Tryz.pinned (OpenSpec.ofChange turnMaySpec)

/-- ITS FALSE NEIGHBOUR: 'it returns false'. Refute it at one input. -/
def turnMayWrong : ChangeSpec := { name := "turnMay", fn := fun _ => fun
  | [d1, d2, d3] => { results := [.lit (.bool false)], args := [d1, d2, d3] }
  | _ => none }
def TurnMayWrongFalsely : Prop := turnMayRow.holds Tryz.pinned (OpenSpec.ofChange turnMayWrong)

/-- 'baizelaw21.TurnAll': WHATEVER THE INPUT: true; the input reads as it did. -/
def turnAllSpec : ChangeSpec := { name := "turnAll", fn := fun _ => fun
  | [d1, d2, d3] => { results := [.lit (.bool true)], args := [d1, d2, d3] }
  | _ => none }
def turnAllRow : OpenClaim := { program := "ytflcpnaigpgciaagreatdoor", sum := "e31db2dd05280f33df8d970c2aa7709df92216587a939171f17bc2fccd21810a", func := "baize/baizelaw21.TurnAll", spec := "turnAll", unfollowed := true, recurses := true, named := ["strings.asciiSpace", "unicode.White_Space"], loops := true, apart := false, laid := [("unicode.White_Space", laid_unicode_White_Space), ("strings.asciiSpace", laid_strings_asciiSpace)] }
def TurnAllSaid : Prop := turnAllRow.holds Tryz.pinned (OpenSpec.ofChange turnAllSpec)

/-- ITS FALSE NEIGHBOUR: 'it returns false'. Refute it at one input. -/
def turnAllWrong : ChangeSpec := { name := "turnAll", fn := fun _ => fun
  | [d1, d2, d3] => { results := [.lit (.bool false)], args := [d1, d2, d3] }
  | _ => none }
def TurnAllWrongFalsely : Prop := turnAllRow.holds Tryz.pinned (OpenSpec.ofChange turnAllWrong)

/-- 'baizelaw21.TurnListed': WHATEVER THE INPUT: true; the input reads as it did. -/
def turnListedSpec : ChangeSpec := { name := "turnListed", fn := fun _ => fun
  | [d1, d2, d3] => { results := [.lit (.bool true)], args := [d1, d2, d3] }
  | _ => none }
def turnListedRow : OpenClaim := { program := "ytflcpnaigpgciaagreatdoor", sum := "e31db2dd05280f33df8d970c2aa7709df92216587a939171f17bc2fccd21810a", func := "baize/baizelaw21.TurnListed", spec := "turnListed", unfollowed := true, recurses := true, named := ["strings.asciiSpace", "unicode.White_Space"], loops := true, apart := false, laid := [("unicode.White_Space", laid_unicode_White_Space), ("strings.asciiSpace", laid_strings_asciiSpace)] }
def TurnListedSaid : Prop := turnListedRow.holds Tryz.pinned (OpenSpec.ofChange turnListedSpec)

/-- ITS FALSE NEIGHBOUR: 'it returns false'. Refute it at one input. -/
def turnListedWrong : ChangeSpec := { name := "turnListed", fn := fun _ => fun
  | [d1, d2, d3] => { results := [.lit (.bool false)], args := [d1, d2, d3] }
  | _ => none }
def TurnListedWrongFalsely : Prop := turnListedRow.holds Tryz.pinned (OpenSpec.ofChange turnListedWrong)

/-- 'baizelaw21.TurnPays': WHATEVER THE INPUT: true; the input reads as it did. -/
def turnPaysSpec : ChangeSpec := { name := "turnPays", fn := fun _ => fun
  | [d1, d2, d3, d4, d5] => { results := [.lit (.bool true)], args := [d1, d2, d3, d4, d5] }
  | _ => none }
def turnPaysRow : OpenClaim := { program := "ytflcpnaigpgciaagreatdoor", sum := "e31db2dd05280f33df8d970c2aa7709df92216587a939171f17bc2fccd21810a", func := "baize/baizelaw21.TurnPays", spec := "turnPays", unfollowed := true, recurses := true, named := ["strings.asciiSpace", "unicode.White_Space"], loops := true, apart := false, laid := [("unicode.White_Space", laid_unicode_White_Space), ("strings.asciiSpace", laid_strings_asciiSpace)] }
def TurnPaysSaid : Prop := turnPaysRow.holds Tryz.pinned (OpenSpec.ofChange turnPaysSpec)

/-- ITS FALSE NEIGHBOUR: 'it returns false'. Refute it at one input. -/
def turnPaysWrong : ChangeSpec := { name := "turnPays", fn := fun _ => fun
  | [d1, d2, d3, d4, d5] => { results := [.lit (.bool false)], args := [d1, d2, d3, d4, d5] }
  | _ => none }
def TurnPaysWrongFalsely : Prop := turnPaysRow.holds Tryz.pinned (OpenSpec.ofChange turnPaysWrong)

/-- 'baizelaw22.FightBegins': WHATEVER THE INPUT: true; the input reads as it did. -/
def fightBeginsSpec : ChangeSpec := { name := "fightBegins", fn := fun _ => fun
  | [d1, d2, d3] => { results := [.lit (.bool true)], args := [d1, d2, d3] }
  | _ => none }
def fightBeginsRow : OpenClaim := { program := "ytflcpnaigpgciaagreatdoor", sum := "e31db2dd05280f33df8d970c2aa7709df92216587a939171f17bc2fccd21810a", func := "baize/baizelaw22.FightBegins", spec := "fightBegins", unfollowed := true, recurses := true, named := ["strings.asciiSpace", "unicode.White_Space"], loops := true, apart := false, laid := [("unicode.White_Space", laid_unicode_White_Space), ("strings.asciiSpace", laid_strings_asciiSpace)] }
def FightBeginsSaid : Prop := fightBeginsRow.holds Tryz.pinned (OpenSpec.ofChange fightBeginsSpec)

/-- ITS FALSE NEIGHBOUR: 'it returns false'. Refute it at one input. -/
def fightBeginsWrong : ChangeSpec := { name := "fightBegins", fn := fun _ => fun
  | [d1, d2, d3] => { results := [.lit (.bool false)], args := [d1, d2, d3] }
  | _ => none }
def FightBeginsWrongFalsely : Prop := fightBeginsRow.holds Tryz.pinned (OpenSpec.ofChange fightBeginsWrong)

/-- 'baizelaw22.FightEnds': WHATEVER THE INPUT: true; the input reads as it did. -/
def fightEndsSpec : ChangeSpec := { name := "fightEnds", fn := fun _ => fun
  | [d1, d2, d3] => { results := [.lit (.bool true)], args := [d1, d2, d3] }
  | _ => none }
def fightEndsRow : OpenClaim := { program := "ytflcpnaigpgciaagreatdoor", sum := "e31db2dd05280f33df8d970c2aa7709df92216587a939171f17bc2fccd21810a", func := "baize/baizelaw22.FightEnds", spec := "fightEnds", unfollowed := true, recurses := true, named := ["strings.asciiSpace", "unicode.White_Space"], loops := true, apart := false, laid := [("unicode.White_Space", laid_unicode_White_Space), ("strings.asciiSpace", laid_strings_asciiSpace)] }
def FightEndsSaid : Prop := fightEndsRow.holds Tryz.pinned (OpenSpec.ofChange fightEndsSpec)

/-- ITS FALSE NEIGHBOUR: 'it returns false'. Refute it at one input. -/
def fightEndsWrong : ChangeSpec := { name := "fightEnds", fn := fun _ => fun
  | [d1, d2, d3] => { results := [.lit (.bool false)], args := [d1, d2, d3] }
  | _ => none }
def FightEndsWrongFalsely : Prop := fightEndsRow.holds Tryz.pinned (OpenSpec.ofChange fightEndsWrong)

/-- 'baizelaw22.FightAtOnce': WHATEVER THE INPUT: true; the input reads as it did. -/
def fightAtOnceSpec : ChangeSpec := { name := "fightAtOnce", fn := fun _ => fun
  | [d1, d2, d3, d4, d5] => { results := [.lit (.bool true)], args := [d1, d2, d3, d4, d5] }
  | _ => none }
def fightAtOnceRow : OpenClaim := { program := "ytflcpnaigpgciaagreatdoor", sum := "e31db2dd05280f33df8d970c2aa7709df92216587a939171f17bc2fccd21810a", func := "baize/baizelaw22.FightAtOnce", spec := "fightAtOnce", unfollowed := true, recurses := true, named := ["strings.asciiSpace", "unicode.White_Space"], loops := true, apart := false, laid := [("unicode.White_Space", laid_unicode_White_Space), ("strings.asciiSpace", laid_strings_asciiSpace)] }
def FightAtOnceSaid : Prop := fightAtOnceRow.holds Tryz.pinned (OpenSpec.ofChange fightAtOnceSpec)

/-- ITS FALSE NEIGHBOUR: 'it returns false'. Refute it at one input. -/
def fightAtOnceWrong : ChangeSpec := { name := "fightAtOnce", fn := fun _ => fun
  | [d1, d2, d3, d4, d5] => { results := [.lit (.bool false)], args := [d1, d2, d3, d4, d5] }
  | _ => none }
def FightAtOnceWrongFalsely : Prop := fightAtOnceRow.holds Tryz.pinned (OpenSpec.ofChange fightAtOnceWrong)

/-- 'baizelaw22.FightHarms': WHATEVER THE INPUT: true; the input reads as it did. -/
def fightHarmsSpec : ChangeSpec := { name := "fightHarms", fn := fun _ => fun
  | [d1, d2, d3] => { results := [.lit (.bool true)], args := [d1, d2, d3] }
  | _ => none }
def fightHarmsRow : OpenClaim := { program := "ytflcpnaigpgciaagreatdoor", sum := "e31db2dd05280f33df8d970c2aa7709df92216587a939171f17bc2fccd21810a", func := "baize/baizelaw22.FightHarms", spec := "fightHarms", unfollowed := true, recurses := true, named := ["strings.asciiSpace", "unicode.White_Space"], loops := true, apart := false, laid := [("unicode.White_Space", laid_unicode_White_Space), ("strings.asciiSpace", laid_strings_asciiSpace)] }
def FightHarmsSaid : Prop := fightHarmsRow.holds Tryz.pinned (OpenSpec.ofChange fightHarmsSpec)

/-- ITS FALSE NEIGHBOUR: 'it returns false'. Refute it at one input. -/
def fightHarmsWrong : ChangeSpec := { name := "fightHarms", fn := fun _ => fun
  | [d1, d2, d3] => { results := [.lit (.bool false)], args := [d1, d2, d3] }
  | _ => none }
def FightHarmsWrongFalsely : Prop := fightHarmsRow.holds Tryz.pinned (OpenSpec.ofChange fightHarmsWrong)

/- THE SECOND FORM. 'bulk': how many values and letters a reading holds, each counted each time it is reached (what is shared counts as often as it is met; a slice's spare places count too). A statement '..UptoSaid' is the law's where the arguments, and the package variables that the reading takes, are together of bulk at most 1048576: NARROWER than '..Said'. Prove '..Said' where nothing that the law and all that it calls make is longer than what came in: it says more and counts as full. Else prove '..UptoSaid'. A law counts once. -/
mutual
def uptoBulk {H : Type} : DataW H → Nat
  | .lit (.string bytes) => bytes.length + 1
  | .lit _ => 1
  | .nil => 1
  | .ptr d => uptoBulk d + 1
  | .slice elems spare => uptoBulkAll elems + uptoBulkAll spare + 1
  | .agg parts => uptoBulkAll parts + 1
  | .iface _ d => uptoBulk d + 1
  | .map entries => uptoBulkEntries entries + 1
  | .held _ => 1
def uptoBulkAll {H : Type} : List (DataW H) → Nat
  | [] => 0
  | d :: r => uptoBulk d + uptoBulkAll r
def uptoBulkEntries {H : Type} : List (Lit × DataW H) → Nat
  | [] => 0
  | x :: r => uptoBulkEntry x + uptoBulkEntries r
def uptoBulkEntry {H : Type} : Lit × DataW H → Nat
  | (.string bytes, d) => bytes.length + uptoBulk d + 1
  | (_, d) => uptoBulk d + 1
 end
def uptoSmall : (H : Type) → List (DataW H) → Bool := fun _ ds => decide (uptoBulkAll ds ≤ 1048576)
def OpenSpec.upto (s : _root_.Go.ChangeSpec) : _root_.Go.OpenSpec := { _root_.Go.OpenSpec.ofChange s with cond := some uptoSmall }

/-- 'baizelaw17.ZoneApart', WHERE WHAT IT READS IS OF BULK AT MOST 1048576: true; the input reads as it did. -/
def zoneApartUptoRow : OpenClaim := { program := "ytflcpnaigpgciaagreatdoor", sum := "e31db2dd05280f33df8d970c2aa7709df92216587a939171f17bc2fccd21810a", func := "baize/baizelaw17.ZoneApart", spec := "zoneApart", unfollowed := true, recurses := true, named := ["strings.asciiSpace", "unicode.White_Space"], loops := true, apart := false, laid := [("unicode.White_Space", laid_unicode_White_Space), ("strings.asciiSpace", laid_strings_asciiSpace)], narrowed := true }
def ZoneApartUptoSaid : Prop := zoneApartUptoRow.holds Tryz.pinned (OpenSpec.upto zoneApartSpec)

/-- 'baizelaw17.ZoneKeeps', WHERE WHAT IT READS IS OF BULK AT MOST 1048576: true; the input reads as it did. -/
def zoneKeepsUptoRow : OpenClaim := { program := "ytflcpnaigpgciaagreatdoor", sum := "e31db2dd05280f33df8d970c2aa7709df92216587a939171f17bc2fccd21810a", func := "baize/baizelaw17.ZoneKeeps", spec := "zoneKeeps", unfollowed := true, recurses := true, named := ["strings.asciiSpace", "unicode.White_Space"], loops := true, apart := false, laid := [("unicode.White_Space", laid_unicode_White_Space), ("strings.asciiSpace", laid_strings_asciiSpace)], narrowed := true }
def ZoneKeepsUptoSaid : Prop := zoneKeepsUptoRow.holds Tryz.pinned (OpenSpec.upto zoneKeepsSpec)

/-- 'baizelaw19.ValueHidden', WHERE WHAT IT READS IS OF BULK AT MOST 1048576: true; the input reads as it did. -/
def valueHiddenUptoRow : OpenClaim := { program := "ytflcpnaigpgciaagreatdoor", sum := "e31db2dd05280f33df8d970c2aa7709df92216587a939171f17bc2fccd21810a", func := "baize/baizelaw19.ValueHidden", spec := "valueHidden", unfollowed := true, recurses := true, named := ["strings.asciiSpace", "unicode.White_Space"], loops := true, apart := false, laid := [("unicode.White_Space", laid_unicode_White_Space), ("strings.asciiSpace", laid_strings_asciiSpace)], narrowed := true }
def ValueHiddenUptoSaid : Prop := valueHiddenUptoRow.holds Tryz.pinned (OpenSpec.upto valueHiddenSpec)

/-- 'baizelaw21.TurnMay', WHERE WHAT IT READS IS OF BULK AT MOST 1048576: true; the input reads as it did. -/
def turnMayUptoRow : OpenClaim := { program := "ytflcpnaigpgciaagreatdoor", sum := "e31db2dd05280f33df8d970c2aa7709df92216587a939171f17bc2fccd21810a", func := "baize/baizelaw21.TurnMay", spec := "turnMay", unfollowed := true, recurses := true, named := ["strings.asciiSpace", "unicode.White_Space"], loops := true, apart := false, laid := [("unicode.White_Space", laid_unicode_White_Space), ("strings.asciiSpace", laid_strings_asciiSpace)], narrowed := true }
def TurnMayUptoSaid : Prop := turnMayUptoRow.holds Tryz.pinned (OpenSpec.upto turnMaySpec)

/-- 'baizelaw21.TurnAll', WHERE WHAT IT READS IS OF BULK AT MOST 1048576: true; the input reads as it did. -/
def turnAllUptoRow : OpenClaim := { program := "ytflcpnaigpgciaagreatdoor", sum := "e31db2dd05280f33df8d970c2aa7709df92216587a939171f17bc2fccd21810a", func := "baize/baizelaw21.TurnAll", spec := "turnAll", unfollowed := true, recurses := true, named := ["strings.asciiSpace", "unicode.White_Space"], loops := true, apart := false, laid := [("unicode.White_Space", laid_unicode_White_Space), ("strings.asciiSpace", laid_strings_asciiSpace)], narrowed := true }
def TurnAllUptoSaid : Prop := turnAllUptoRow.holds Tryz.pinned (OpenSpec.upto turnAllSpec)

/-- 'baizelaw21.TurnListed', WHERE WHAT IT READS IS OF BULK AT MOST 1048576: true; the input reads as it did. -/
def turnListedUptoRow : OpenClaim := { program := "ytflcpnaigpgciaagreatdoor", sum := "e31db2dd05280f33df8d970c2aa7709df92216587a939171f17bc2fccd21810a", func := "baize/baizelaw21.TurnListed", spec := "turnListed", unfollowed := true, recurses := true, named := ["strings.asciiSpace", "unicode.White_Space"], loops := true, apart := false, laid := [("unicode.White_Space", laid_unicode_White_Space), ("strings.asciiSpace", laid_strings_asciiSpace)], narrowed := true }
def TurnListedUptoSaid : Prop := turnListedUptoRow.holds Tryz.pinned (OpenSpec.upto turnListedSpec)

/-- 'baizelaw21.TurnPays', WHERE WHAT IT READS IS OF BULK AT MOST 1048576: true; the input reads as it did. -/
def turnPaysUptoRow : OpenClaim := { program := "ytflcpnaigpgciaagreatdoor", sum := "e31db2dd05280f33df8d970c2aa7709df92216587a939171f17bc2fccd21810a", func := "baize/baizelaw21.TurnPays", spec := "turnPays", unfollowed := true, recurses := true, named := ["strings.asciiSpace", "unicode.White_Space"], loops := true, apart := false, laid := [("unicode.White_Space", laid_unicode_White_Space), ("strings.asciiSpace", laid_strings_asciiSpace)], narrowed := true }
def TurnPaysUptoSaid : Prop := turnPaysUptoRow.holds Tryz.pinned (OpenSpec.upto turnPaysSpec)

/-- 'baizelaw22.FightBegins', WHERE WHAT IT READS IS OF BULK AT MOST 1048576: true; the input reads as it did. -/
def fightBeginsUptoRow : OpenClaim := { program := "ytflcpnaigpgciaagreatdoor", sum := "e31db2dd05280f33df8d970c2aa7709df92216587a939171f17bc2fccd21810a", func := "baize/baizelaw22.FightBegins", spec := "fightBegins", unfollowed := true, recurses := true, named := ["strings.asciiSpace", "unicode.White_Space"], loops := true, apart := false, laid := [("unicode.White_Space", laid_unicode_White_Space), ("strings.asciiSpace", laid_strings_asciiSpace)], narrowed := true }
def FightBeginsUptoSaid : Prop := fightBeginsUptoRow.holds Tryz.pinned (OpenSpec.upto fightBeginsSpec)

/-- 'baizelaw22.FightEnds', WHERE WHAT IT READS IS OF BULK AT MOST 1048576: true; the input reads as it did. -/
def fightEndsUptoRow : OpenClaim := { program := "ytflcpnaigpgciaagreatdoor", sum := "e31db2dd05280f33df8d970c2aa7709df92216587a939171f17bc2fccd21810a", func := "baize/baizelaw22.FightEnds", spec := "fightEnds", unfollowed := true, recurses := true, named := ["strings.asciiSpace", "unicode.White_Space"], loops := true, apart := false, laid := [("unicode.White_Space", laid_unicode_White_Space), ("strings.asciiSpace", laid_strings_asciiSpace)], narrowed := true }
def FightEndsUptoSaid : Prop := fightEndsUptoRow.holds Tryz.pinned (OpenSpec.upto fightEndsSpec)

/-- 'baizelaw22.FightAtOnce', WHERE WHAT IT READS IS OF BULK AT MOST 1048576: true; the input reads as it did. -/
def fightAtOnceUptoRow : OpenClaim := { program := "ytflcpnaigpgciaagreatdoor", sum := "e31db2dd05280f33df8d970c2aa7709df92216587a939171f17bc2fccd21810a", func := "baize/baizelaw22.FightAtOnce", spec := "fightAtOnce", unfollowed := true, recurses := true, named := ["strings.asciiSpace", "unicode.White_Space"], loops := true, apart := false, laid := [("unicode.White_Space", laid_unicode_White_Space), ("strings.asciiSpace", laid_strings_asciiSpace)], narrowed := true }
def FightAtOnceUptoSaid : Prop := fightAtOnceUptoRow.holds Tryz.pinned (OpenSpec.upto fightAtOnceSpec)

/-- 'baizelaw22.FightHarms', WHERE WHAT IT READS IS OF BULK AT MOST 1048576: true; the input reads as it did. -/
def fightHarmsUptoRow : OpenClaim := { program := "ytflcpnaigpgciaagreatdoor", sum := "e31db2dd05280f33df8d970c2aa7709df92216587a939171f17bc2fccd21810a", func := "baize/baizelaw22.FightHarms", spec := "fightHarms", unfollowed := true, recurses := true, named := ["strings.asciiSpace", "unicode.White_Space"], loops := true, apart := false, laid := [("unicode.White_Space", laid_unicode_White_Space), ("strings.asciiSpace", laid_strings_asciiSpace)], narrowed := true }
def FightHarmsUptoSaid : Prop := fightHarmsUptoRow.holds Tryz.pinned (OpenSpec.upto fightHarmsSpec)

end Rows
end Go.Proofs.YtflcpnaigpgciaaGreatDoor
