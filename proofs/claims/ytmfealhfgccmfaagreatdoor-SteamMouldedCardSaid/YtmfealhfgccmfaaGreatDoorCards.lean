/-
  DERIVED. GIVEN WITH THE SEED: THE CARDS: each row of YtmfealhfgccmfaaGreatDoorRows.lean that lists a variable, with what it lists TIED to the program's text (the seventh form; the later family's looks); each row that meets fmt, with fmt's text TOLD by the authors' own Lean function (tested against real Go, not proved from fmt's source: count such statements apart). THE CARD IS WHAT COUNTS. Prove the row's statement (the work); the ties are given (YtmfealhfgccmfaaGreatDoorTie.lean); close each card by the builder's one call (the guide's Derived/Test/ToyasCard.lean, 'card_holds'). Laid BY PROGRAM, IN A SANDBOX (cutbox-door.mjs). By AI agents, Wed Nov 11 2026. No macro, syntax, notation, axiom, sorry.
-/
import Derived.Test.YtmfealhfgccmfaaGreatDoorRows
import GoSem.ClaimSeven
namespace Go.Proofs.YtmfealhfgccmfaaGreatDoor
namespace Rows

/-- THE TIED CARD OF 'ribbandlaw09.SteamSpiled'. -/
def steamSpiledCard : Claim7 := { stood := { row := steamSpiledRow, standIns := [], harness := (true, "dc68d070994010dff4ff967306ae2fa2ed82db0e2b226bb9468f5a575d68886c"), looks := false }, kinds := [], alts := [], goes := true, laidByText := true, laidKinds := [.funcs, .funcs, .funcs], laidTests := true, laidLooks := .later }
def SteamSpiledCardSaid : Prop := Claim7.holds Tryz.pinned (.plain (OpenSpec.ofChange steamSpiledSpec)) steamSpiledCard

/-- THE TIED CARD OF 'ribbandlaw09.SteamBent'. -/
def steamBentCard : Claim7 := { stood := { row := steamBentRow, standIns := [], harness := (true, "dc68d070994010dff4ff967306ae2fa2ed82db0e2b226bb9468f5a575d68886c"), looks := false }, kinds := [], alts := [], goes := true, laidByText := true, laidKinds := [.funcs, .funcs, .funcs], laidTests := true, laidLooks := .later }
def SteamBentCardSaid : Prop := Claim7.holds Tryz.pinned (.plain (OpenSpec.ofChange steamBentSpec)) steamBentCard

/-- THE TIED CARD OF 'ribbandlaw09.SteamMoulded'. -/
def steamMouldedCard : Claim7 := { stood := { row := steamMouldedRow, standIns := [], harness := (true, "dc68d070994010dff4ff967306ae2fa2ed82db0e2b226bb9468f5a575d68886c"), looks := false }, kinds := [], alts := [], goes := true, laidByText := true, laidKinds := [.funcs, .funcs], laidTests := true, laidLooks := .later }
def SteamMouldedCardSaid : Prop := Claim7.holds Tryz.pinned (.plain (OpenSpec.ofChange steamMouldedSpec)) steamMouldedCard

/-- THE TIED CARD OF 'ribbandlaw09.SteamThick'. -/
def steamThickCard : Claim7 := { stood := { row := steamThickRow, standIns := [], harness := (true, "dc68d070994010dff4ff967306ae2fa2ed82db0e2b226bb9468f5a575d68886c"), looks := false }, kinds := [], alts := [], goes := true, laidByText := true, laidKinds := [.funcs, .funcs, .funcs], laidTests := true, laidLooks := .later }
def SteamThickCardSaid : Prop := Claim7.holds Tryz.pinned (.plain (OpenSpec.ofChange steamThickSpec)) steamThickCard
end Rows
end Go.Proofs.YtmfealhfgccmfaaGreatDoor
