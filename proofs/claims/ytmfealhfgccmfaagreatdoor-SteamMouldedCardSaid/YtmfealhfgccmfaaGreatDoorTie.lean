/-
  DERIVED. GIVEN WITH THE SEED: THE PROGRAM's TIES (one call each: nine closed facts by the kernel) AND EACH ROW's TIE, after the 31st guide's Derived/Test/Toyas{Tie, Card}.lean. No idea stands in it: it is a product of the set-up. Laid BY PROGRAM, IN A SANDBOX (cutbox-door.mjs). By AI agents, Wed Nov 11 2026. No macro, syntax, notation, axiom, sorry.
-/
import Derived.Test.YtmfealhfgccmfaaGreatDoorRows
import Derived.LaidByTextLater
import Derived.SevenTiedAt
import Derived.LaidSub
import Derived.LaidOnce
namespace Go.Proofs.YtmfealhfgccmfaaGreatDoor
open Go
set_option maxRecDepth 100000
theorem seatTie1 : Tryz.prog.laidByTextLater [("ribband/batten.checks", Rows.laid_ribband_batten_checks), ("ribband/frame.checks", Rows.laid_ribband_frame_checks), ("ribband/spile.checks", Rows.laid_ribband_spile_checks), ("ribband/steam.checks", Rows.laid_ribband_steam_checks), ("ribband/steam.first", Rows.laid_ribband_steam_first)] [.funcs, .funcs, .funcs, .funcs, .funcs] true :=
  Program.laidByTextLater_by_one 34 8 2 (by kernel_rfl) (by kernel_rfl) (by kernel_rfl) (by kernel_rfl) (by kernel_rfl) (by kernel_rfl) (fun _ _ => by kernel_rfl)
theorem noOwnUnsafe : Tryz.pinned.checked.prog.headLifts.contains "ownunsafe" = false := by kernel_rfl
theorem tie : Tryz.prog.laidByTextLater [("ribband/spile.checks", Rows.laid_ribband_spile_checks), ("ribband/steam.checks", Rows.laid_ribband_steam_checks), ("ribband/steam.first", Rows.laid_ribband_steam_first)] [.funcs, .funcs, .funcs] true :=
  Program.laidByTextLater.sub seatTie1 ["ribband/spile.checks", "ribband/steam.checks", "ribband/steam.first"] (by kernel_rfl) (by kernel_rfl)
theorem steamSpiled_row_tie : Rows.steamSpiledRow.laidByTextAt .later Tryz.pinned [.funcs, .funcs, .funcs] true :=
  OpenClaim.laidByTextAt_later rfl rfl tie noOwnUnsafe
theorem tie2 : Tryz.prog.laidByTextLater [("ribband/batten.checks", Rows.laid_ribband_batten_checks), ("ribband/steam.checks", Rows.laid_ribband_steam_checks), ("ribband/steam.first", Rows.laid_ribband_steam_first)] [.funcs, .funcs, .funcs] true :=
  Program.laidByTextLater.sub seatTie1 ["ribband/batten.checks", "ribband/steam.checks", "ribband/steam.first"] (by kernel_rfl) (by kernel_rfl)
theorem steamBent_row_tie : Rows.steamBentRow.laidByTextAt .later Tryz.pinned [.funcs, .funcs, .funcs] true :=
  OpenClaim.laidByTextAt_later rfl rfl tie2 noOwnUnsafe
theorem tie3 : Tryz.prog.laidByTextLater [("ribband/steam.checks", Rows.laid_ribband_steam_checks), ("ribband/steam.first", Rows.laid_ribband_steam_first)] [.funcs, .funcs] true :=
  Program.laidByTextLater.sub seatTie1 ["ribband/steam.checks", "ribband/steam.first"] (by kernel_rfl) (by kernel_rfl)
theorem steamMoulded_row_tie : Rows.steamMouldedRow.laidByTextAt .later Tryz.pinned [.funcs, .funcs] true :=
  OpenClaim.laidByTextAt_later rfl rfl tie3 noOwnUnsafe
theorem tie4 : Tryz.prog.laidByTextLater [("ribband/frame.checks", Rows.laid_ribband_frame_checks), ("ribband/steam.checks", Rows.laid_ribband_steam_checks), ("ribband/steam.first", Rows.laid_ribband_steam_first)] [.funcs, .funcs, .funcs] true :=
  Program.laidByTextLater.sub seatTie1 ["ribband/frame.checks", "ribband/steam.checks", "ribband/steam.first"] (by kernel_rfl) (by kernel_rfl)
theorem steamThick_row_tie : Rows.steamThickRow.laidByTextAt .later Tryz.pinned [.funcs, .funcs, .funcs] true :=
  OpenClaim.laidByTextAt_later rfl rfl tie4 noOwnUnsafe
end Go.Proofs.YtmfealhfgccmfaaGreatDoor
