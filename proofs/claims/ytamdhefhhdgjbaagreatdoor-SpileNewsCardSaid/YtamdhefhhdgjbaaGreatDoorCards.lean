/-
  DERIVED. GIVEN WITH THE SEED: THE CARDS: each row of YtamdhefhhdgjbaaGreatDoorRows.lean that lists a variable, with what it lists TIED to the program's text (the seventh form; the later family's looks); each row that meets fmt, with fmt's text TOLD by the authors' own Lean function (tested against real Go, not proved from fmt's source: count such statements apart). THE CARD IS WHAT COUNTS. Prove the row's statement (the work); the ties are given (YtamdhefhhdgjbaaGreatDoorTie.lean); close each card by the builder's one call (the guide's Derived/Test/ToyasCard.lean, 'card_holds'). Laid BY PROGRAM, IN A SANDBOX (cutbox-door.mjs). By AI agents, Wed Nov 11 2026. No macro, syntax, notation, axiom, sorry.
-/
import Derived.Test.YtamdhefhhdgjbaaGreatDoorRows
import GoSem.ClaimSeven
namespace Go.Proofs.YtamdhefhhdgjbaaGreatDoor
namespace Rows

/-- THE TIED CARD OF 'ribbandlaw07.SpileBoats'. -/
def spileBoatsCard : Claim7 := { stood := { row := spileBoatsRow, standIns := [], harness := (true, "7d20c1c653d3570dc0b3adced23199ecfee38ebbf859018ae9f3ecca83f03cb8"), looks := false }, kinds := [], alts := [], goes := true, laidByText := true, laidKinds := [.funcs], laidTests := true, laidLooks := .later }
def SpileBoatsCardSaid : Prop := Claim7.holds Tryz.pinned (.plain (OpenSpec.ofChange spileBoatsSpec)) spileBoatsCard

/-- THE TIED CARD OF 'ribbandlaw07.SpileBoards'. -/
def spileBoardsCard : Claim7 := { stood := { row := spileBoardsRow, standIns := [], harness := (true, "7d20c1c653d3570dc0b3adced23199ecfee38ebbf859018ae9f3ecca83f03cb8"), looks := false }, kinds := [], alts := [], goes := true, laidByText := true, laidKinds := [.funcs], laidTests := true, laidLooks := .later }
def SpileBoardsCardSaid : Prop := Claim7.holds Tryz.pinned (.plain (OpenSpec.ofChange spileBoardsSpec)) spileBoardsCard

/-- THE TIED CARD OF 'ribbandlaw07.SpileNews'. -/
def spileNewsCard : Claim7 := { stood := { row := spileNewsRow, standIns := [], harness := (true, "7d20c1c653d3570dc0b3adced23199ecfee38ebbf859018ae9f3ecca83f03cb8"), looks := false }, kinds := [], alts := [], goes := true, laidByText := true, laidKinds := [.funcs], laidTests := true, laidLooks := .later }
def SpileNewsCardSaid : Prop := Claim7.holds Tryz.pinned (.plain (OpenSpec.ofChange spileNewsSpec)) spileNewsCard

/-- THE TIED CARD OF 'ribbandlaw07.SpileReached'. -/
def spileReachedCard : Claim7 := { stood := { row := spileReachedRow, standIns := [], harness := (true, "7d20c1c653d3570dc0b3adced23199ecfee38ebbf859018ae9f3ecca83f03cb8"), looks := false }, kinds := [], alts := [], goes := true, laidByText := true, laidKinds := [.funcs], laidTests := true, laidLooks := .later }
def SpileReachedCardSaid : Prop := Claim7.holds Tryz.pinned (.plain (OpenSpec.ofChange spileReachedSpec)) spileReachedCard

/-- THE TIED CARD OF 'ribbandlaw07.SpileSlips'. -/
def spileSlipsCard : Claim7 := { stood := { row := spileSlipsRow, standIns := [], harness := (true, "7d20c1c653d3570dc0b3adced23199ecfee38ebbf859018ae9f3ecca83f03cb8"), looks := false }, kinds := [], alts := [], goes := true, laidByText := true, laidKinds := [.funcs], laidTests := true, laidLooks := .later }
def SpileSlipsCardSaid : Prop := Claim7.holds Tryz.pinned (.plain (OpenSpec.ofChange spileSlipsSpec)) spileSlipsCard

/-- THE TIED CARD OF 'ribbandlaw07.SpileShifts'. -/
def spileShiftsCard : Claim7 := { stood := { row := spileShiftsRow, standIns := [], harness := (true, "7d20c1c653d3570dc0b3adced23199ecfee38ebbf859018ae9f3ecca83f03cb8"), looks := false }, kinds := [], alts := [], goes := true, laidByText := true, laidKinds := [.funcs], laidTests := true, laidLooks := .later }
def SpileShiftsCardSaid : Prop := Claim7.holds Tryz.pinned (.plain (OpenSpec.ofChange spileShiftsSpec)) spileShiftsCard

/-- THE TIED CARD OF 'ribbandlaw07.SpileBroader'. -/
def spileBroaderCard : Claim7 := { stood := { row := spileBroaderRow, standIns := [], harness := (true, "7d20c1c653d3570dc0b3adced23199ecfee38ebbf859018ae9f3ecca83f03cb8"), looks := false }, kinds := [], alts := [], goes := true, laidByText := true, laidKinds := [.funcs], laidTests := true, laidLooks := .later }
def SpileBroaderCardSaid : Prop := Claim7.holds Tryz.pinned (.plain (OpenSpec.ofChange spileBroaderSpec)) spileBroaderCard

/-- THE TIED CARD OF 'ribbandlaw07.SpileLearnt'. -/
def spileLearntCard : Claim7 := { stood := { row := spileLearntRow, standIns := [], harness := (true, "7d20c1c653d3570dc0b3adced23199ecfee38ebbf859018ae9f3ecca83f03cb8"), looks := false }, kinds := [], alts := [], goes := true, laidByText := true, laidKinds := [.funcs], laidTests := true, laidLooks := .later }
def SpileLearntCardSaid : Prop := Claim7.holds Tryz.pinned (.plain (OpenSpec.ofChange spileLearntSpec)) spileLearntCard

/-- THE TIED CARD OF 'ribbandlaw07.SpileClashes'. -/
def spileClashesCard : Claim7 := { stood := { row := spileClashesRow, standIns := [], harness := (true, "7d20c1c653d3570dc0b3adced23199ecfee38ebbf859018ae9f3ecca83f03cb8"), looks := false }, kinds := [], alts := [], goes := true, laidByText := true, laidKinds := [.funcs], laidTests := true, laidLooks := .later }
def SpileClashesCardSaid : Prop := Claim7.holds Tryz.pinned (.plain (OpenSpec.ofChange spileClashesSpec)) spileClashesCard

/-- THE TIED CARD OF 'ribbandlaw07.SpileAsked'. -/
def spileAskedCard : Claim7 := { stood := { row := spileAskedRow, standIns := [], harness := (true, "7d20c1c653d3570dc0b3adced23199ecfee38ebbf859018ae9f3ecca83f03cb8"), looks := false }, kinds := [], alts := [], goes := true, laidByText := true, laidKinds := [.funcs], laidTests := true, laidLooks := .later }
def SpileAskedCardSaid : Prop := Claim7.holds Tryz.pinned (.plain (OpenSpec.ofChange spileAskedSpec)) spileAskedCard

/-- THE TIED CARD OF 'ribbandlaw07.SpileOpened'. -/
def spileOpenedCard : Claim7 := { stood := { row := spileOpenedRow, standIns := [], harness := (true, "7d20c1c653d3570dc0b3adced23199ecfee38ebbf859018ae9f3ecca83f03cb8"), looks := false }, kinds := [], alts := [], goes := true, laidByText := true, laidKinds := [.funcs], laidTests := true, laidLooks := .later }
def SpileOpenedCardSaid : Prop := Claim7.holds Tryz.pinned (.plain (OpenSpec.ofChange spileOpenedSpec)) spileOpenedCard

/-- THE TIED CARD OF 'ribbandlaw07.SpileEnds'. -/
def spileEndsCard : Claim7 := { stood := { row := spileEndsRow, standIns := [], harness := (true, "7d20c1c653d3570dc0b3adced23199ecfee38ebbf859018ae9f3ecca83f03cb8"), looks := false }, kinds := [], alts := [], goes := true, laidByText := true, laidKinds := [.funcs], laidTests := true, laidLooks := .later }
def SpileEndsCardSaid : Prop := Claim7.holds Tryz.pinned (.plain (OpenSpec.ofChange spileEndsSpec)) spileEndsCard

/-- THE TIED CARD OF 'ribbandlaw07.SpileGaps'. -/
def spileGapsCard : Claim7 := { stood := { row := spileGapsRow, standIns := [], harness := (true, "7d20c1c653d3570dc0b3adced23199ecfee38ebbf859018ae9f3ecca83f03cb8"), looks := false }, kinds := [], alts := [], goes := true, laidByText := true, laidKinds := [.funcs], laidTests := true, laidLooks := .later }
def SpileGapsCardSaid : Prop := Claim7.holds Tryz.pinned (.plain (OpenSpec.ofChange spileGapsSpec)) spileGapsCard

/-- THE TIED CARD OF 'ribbandlaw07.SpileReal'. -/
def spileRealCard : Claim7 := { stood := { row := spileRealRow, standIns := [], harness := (true, "7d20c1c653d3570dc0b3adced23199ecfee38ebbf859018ae9f3ecca83f03cb8"), looks := false }, kinds := [], alts := [], goes := true, laidByText := true, laidKinds := [.funcs], laidTests := true, laidLooks := .later }
def SpileRealCardSaid : Prop := Claim7.holds Tryz.pinned (.plain (OpenSpec.ofChange spileRealSpec)) spileRealCard
end Rows
end Go.Proofs.YtamdhefhhdgjbaaGreatDoor
