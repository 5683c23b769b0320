/-
  DERIVED. GIVEN WITH THE SEED: THE CARDS: each row of YtlhomfgcibjccaaGreatDoorRows.lean that lists a variable, with what it lists TIED to the program's text (the seventh form; the later family's looks); each row that meets fmt, with fmt's text TOLD by the authors' own Lean function (tested against real Go, not proved from fmt's source: count such statements apart). THE CARD IS WHAT COUNTS. Prove the row's statement (the work); the ties are given (YtlhomfgcibjccaaGreatDoorTie.lean); close each card by the builder's one call (the guide's Derived/Test/ToyasCard.lean, 'card_holds'). Laid BY PROGRAM, IN A SANDBOX (cutbox-door.mjs). By AI agents, Wed Nov 11 2026. No macro, syntax, notation, axiom, sorry.
-/
import Derived.Test.YtlhomfgcibjccaaGreatDoorRows
import GoSem.ClaimSeven
namespace Go.Proofs.YtlhomfgcibjccaaGreatDoor
namespace Rows

/-- THE TIED CARD OF 'ribbandlaw09.SteamBoats'. -/
def steamBoatsCard : Claim7 := { stood := { row := steamBoatsRow, standIns := [], harness := (true, "201e5e2db2399e5c7105dcd83265e4138c5aa47392aa98dda04156c430957fc8"), looks := false }, kinds := [], alts := [], goes := true, laidByText := true, laidKinds := [.funcs, .funcs], laidTests := true, laidLooks := .later }
def SteamBoatsCardSaid : Prop := Claim7.holds Tryz.pinned (.plain (OpenSpec.ofChange steamBoatsSpec)) steamBoatsCard

/-- THE TIED CARD OF 'ribbandlaw09.SteamPlans'. -/
def steamPlansCard : Claim7 := { stood := { row := steamPlansRow, standIns := [], harness := (true, "201e5e2db2399e5c7105dcd83265e4138c5aa47392aa98dda04156c430957fc8"), looks := false }, kinds := [], alts := [], goes := true, laidByText := true, laidKinds := [.funcs, .funcs], laidTests := true, laidLooks := .later }
def SteamPlansCardSaid : Prop := Claim7.holds Tryz.pinned (.plain (OpenSpec.ofChange steamPlansSpec)) steamPlansCard

/-- THE TIED CARD OF 'ribbandlaw09.SteamReached'. -/
def steamReachedCard : Claim7 := { stood := { row := steamReachedRow, standIns := [], harness := (true, "201e5e2db2399e5c7105dcd83265e4138c5aa47392aa98dda04156c430957fc8"), looks := false }, kinds := [], alts := [], goes := true, laidByText := true, laidKinds := [.funcs, .funcs], laidTests := true, laidLooks := .later }
def SteamReachedCardSaid : Prop := Claim7.holds Tryz.pinned (.plain (OpenSpec.ofChange steamReachedSpec)) steamReachedCard

/-- THE TIED CARD OF 'ribbandlaw09.SteamKept'. -/
def steamKeptCard : Claim7 := { stood := { row := steamKeptRow, standIns := [], harness := (true, "201e5e2db2399e5c7105dcd83265e4138c5aa47392aa98dda04156c430957fc8"), looks := false }, kinds := [], alts := [], goes := true, laidByText := true, laidKinds := [.funcs, .funcs], laidTests := true, laidLooks := .later }
def SteamKeptCardSaid : Prop := Claim7.holds Tryz.pinned (.plain (OpenSpec.ofChange steamKeptSpec)) steamKeptCard

/-- THE TIED CARD OF 'ribbandlaw09.SteamSingle'. -/
def steamSingleCard : Claim7 := { stood := { row := steamSingleRow, standIns := [], harness := (true, "201e5e2db2399e5c7105dcd83265e4138c5aa47392aa98dda04156c430957fc8"), looks := false }, kinds := [], alts := [], goes := true, laidByText := true, laidKinds := [.funcs, .funcs], laidTests := true, laidLooks := .later }
def SteamSingleCardSaid : Prop := Claim7.holds Tryz.pinned (.plain (OpenSpec.ofChange steamSingleSpec)) steamSingleCard

/-- THE TIED CARD OF 'ribbandlaw09.SteamCounted'. -/
def steamCountedCard : Claim7 := { stood := { row := steamCountedRow, standIns := [], harness := (true, "201e5e2db2399e5c7105dcd83265e4138c5aa47392aa98dda04156c430957fc8"), looks := false }, kinds := [], alts := [], goes := true, laidByText := true, laidKinds := [.funcs, .funcs], laidTests := true, laidLooks := .later }
def SteamCountedCardSaid : Prop := Claim7.holds Tryz.pinned (.plain (OpenSpec.ofChange steamCountedSpec)) steamCountedCard

/-- THE TIED CARD OF 'ribbandlaw09.SteamHands'. -/
def steamHandsCard : Claim7 := { stood := { row := steamHandsRow, standIns := [], harness := (true, "201e5e2db2399e5c7105dcd83265e4138c5aa47392aa98dda04156c430957fc8"), looks := false }, kinds := [], alts := [], goes := true, laidByText := true, laidKinds := [.funcs, .funcs], laidTests := true, laidLooks := .later }
def SteamHandsCardSaid : Prop := Claim7.holds Tryz.pinned (.plain (OpenSpec.ofChange steamHandsSpec)) steamHandsCard

/-- THE TIED CARD OF 'ribbandlaw09.SteamTide'. -/
def steamTideCard : Claim7 := { stood := { row := steamTideRow, standIns := [], harness := (true, "201e5e2db2399e5c7105dcd83265e4138c5aa47392aa98dda04156c430957fc8"), looks := false }, kinds := [], alts := [], goes := true, laidByText := true, laidKinds := [.funcs, .funcs], laidTests := true, laidLooks := .later }
def SteamTideCardSaid : Prop := Claim7.holds Tryz.pinned (.plain (OpenSpec.ofChange steamTideSpec)) steamTideCard

/-- THE TIED CARD OF 'ribbandlaw09.SteamClashes'. -/
def steamClashesCard : Claim7 := { stood := { row := steamClashesRow, standIns := [], harness := (true, "201e5e2db2399e5c7105dcd83265e4138c5aa47392aa98dda04156c430957fc8"), looks := false }, kinds := [], alts := [], goes := true, laidByText := true, laidKinds := [.funcs, .funcs], laidTests := true, laidLooks := .later }
def SteamClashesCardSaid : Prop := Claim7.holds Tryz.pinned (.plain (OpenSpec.ofChange steamClashesSpec)) steamClashesCard

/-- THE TIED CARD OF 'ribbandlaw09.SteamAsked'. -/
def steamAskedCard : Claim7 := { stood := { row := steamAskedRow, standIns := [], harness := (true, "201e5e2db2399e5c7105dcd83265e4138c5aa47392aa98dda04156c430957fc8"), looks := false }, kinds := [], alts := [], goes := true, laidByText := true, laidKinds := [.funcs, .funcs], laidTests := true, laidLooks := .later }
def SteamAskedCardSaid : Prop := Claim7.holds Tryz.pinned (.plain (OpenSpec.ofChange steamAskedSpec)) steamAskedCard

/-- THE TIED CARD OF 'ribbandlaw09.SteamNews'. -/
def steamNewsCard : Claim7 := { stood := { row := steamNewsRow, standIns := [], harness := (true, "201e5e2db2399e5c7105dcd83265e4138c5aa47392aa98dda04156c430957fc8"), looks := false }, kinds := [], alts := [], goes := true, laidByText := true, laidKinds := [.funcs, .funcs], laidTests := true, laidLooks := .later }
def SteamNewsCardSaid : Prop := Claim7.holds Tryz.pinned (.plain (OpenSpec.ofChange steamNewsSpec)) steamNewsCard

/-- THE TIED CARD OF 'ribbandlaw09.SteamLearnt'. -/
def steamLearntCard : Claim7 := { stood := { row := steamLearntRow, standIns := [], harness := (true, "201e5e2db2399e5c7105dcd83265e4138c5aa47392aa98dda04156c430957fc8"), looks := false }, kinds := [], alts := [], goes := true, laidByText := true, laidKinds := [.funcs, .funcs], laidTests := true, laidLooks := .later }
def SteamLearntCardSaid : Prop := Claim7.holds Tryz.pinned (.plain (OpenSpec.ofChange steamLearntSpec)) steamLearntCard

/-- THE TIED CARD OF 'ribbandlaw09.SteamWorks'. -/
def steamWorksCard : Claim7 := { stood := { row := steamWorksRow, standIns := [], harness := (true, "201e5e2db2399e5c7105dcd83265e4138c5aa47392aa98dda04156c430957fc8"), looks := false }, kinds := [], alts := [], goes := true, laidByText := true, laidKinds := [.funcs, .funcs], laidTests := true, laidLooks := .later }
def SteamWorksCardSaid : Prop := Claim7.holds Tryz.pinned (.plain (OpenSpec.ofChange steamWorksSpec)) steamWorksCard

/-- THE TIED CARD OF 'ribbandlaw09.SteamReal'. -/
def steamRealCard : Claim7 := { stood := { row := steamRealRow, standIns := [], harness := (true, "201e5e2db2399e5c7105dcd83265e4138c5aa47392aa98dda04156c430957fc8"), looks := false }, kinds := [], alts := [], goes := true, laidByText := true, laidKinds := [.funcs, .funcs], laidTests := true, laidLooks := .later }
def SteamRealCardSaid : Prop := Claim7.holds Tryz.pinned (.plain (OpenSpec.ofChange steamRealSpec)) steamRealCard
end Rows
end Go.Proofs.YtlhomfgcibjccaaGreatDoor
