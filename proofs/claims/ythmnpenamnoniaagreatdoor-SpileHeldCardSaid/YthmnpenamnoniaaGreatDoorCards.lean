/-
  DERIVED. GIVEN WITH THE SEED: THE CARDS: each row of YthmnpenamnoniaaGreatDoorRows.lean that lists a variable, with what it lists TIED to the program's text (the seventh form; the later family's looks); each row that meets fmt, with fmt's text TOLD by the authors' own Lean function (tested against real Go, not proved from fmt's source: count such statements apart). THE CARD IS WHAT COUNTS. Prove the row's statement (the work); the ties are given (YthmnpenamnoniaaGreatDoorTie.lean); close each card by the builder's one call (the guide's Derived/Test/ToyasCard.lean, 'card_holds'). Laid BY PROGRAM, IN A SANDBOX (cutbox-door.mjs). By AI agents, Wed Nov 11 2026. No macro, syntax, notation, axiom, sorry.
-/
import Derived.Test.YthmnpenamnoniaaGreatDoorRows
import GoSem.ClaimSeven
namespace Go.Proofs.YthmnpenamnoniaaGreatDoor
namespace Rows

/-- THE TIED CARD OF 'ribbandlaw07.SpileBent'. -/
def spileBentCard : Claim7 := { stood := { row := spileBentRow, standIns := [], harness := (true, "9cf33abbe2d4d8327d205b7d249e169818294d6939a1d7b1339e3e1d23bfd0bb"), looks := false }, kinds := [], alts := [], goes := true, laidByText := true, laidKinds := [.funcs, .funcs], laidTests := true, laidLooks := .later }
def SpileBentCardSaid : Prop := Claim7.holds Tryz.pinned (.plain (OpenSpec.ofChange spileBentSpec)) spileBentCard

/-- THE TIED CARD OF 'ribbandlaw07.SpileSawn'. -/
def spileSawnCard : Claim7 := { stood := { row := spileSawnRow, standIns := [], harness := (true, "9cf33abbe2d4d8327d205b7d249e169818294d6939a1d7b1339e3e1d23bfd0bb"), looks := false }, kinds := [], alts := [], goes := true, laidByText := true, laidKinds := [.funcs], laidTests := true, laidLooks := .later }
def SpileSawnCardSaid : Prop := Claim7.holds Tryz.pinned (.plain (OpenSpec.ofChange spileSawnSpec)) spileSawnCard

/-- THE TIED CARD OF 'ribbandlaw07.SpileHeld'. -/
def spileHeldCard : Claim7 := { stood := { row := spileHeldRow, standIns := [], harness := (true, "9cf33abbe2d4d8327d205b7d249e169818294d6939a1d7b1339e3e1d23bfd0bb"), looks := false }, kinds := [], alts := [], goes := true, laidByText := true, laidKinds := [.funcs, .funcs], laidTests := true, laidLooks := .later }
def SpileHeldCardSaid : Prop := Claim7.holds Tryz.pinned (.plain (OpenSpec.ofChange spileHeldSpec)) spileHeldCard
end Rows
end Go.Proofs.YthmnpenamnoniaaGreatDoor
