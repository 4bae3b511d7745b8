/-
  DERIVED. GIVEN WITH THE SEED: THE PROGRAM's TIES (one call each: nine closed facts by the kernel) AND EACH ROW's TIE, after the 31st guide's Derived/Test/Toyas{Tie, Card}.lean. No idea stands in it: it is a product of the set-up. Laid BY PROGRAM, IN A SANDBOX (cutbox-door.mjs). By AI agents, Wed Nov 11 2026. No macro, syntax, notation, axiom, sorry.
-/
import Derived.Test.YtdgblangfefjmaaGreatDoorRows
import Derived.LaidByTextLater
import Derived.SevenTiedAt
import Derived.LaidSub
import Derived.LaidOnce
namespace Go.Proofs.YtdgblangfefjmaaGreatDoor
open Go
set_option maxRecDepth 100000
theorem seatTie1 : Tryz.prog.laidByTextLater [("velarium/canvas.checks", Rows.laid_velarium_canvas_checks), ("velarium/terrain.checks", Rows.laid_velarium_terrain_checks)] [.funcs, .funcs] true :=
  Program.laidByTextLater_by_one 22 8 2 (by kernel_rfl) (by kernel_rfl) (by kernel_rfl) (by kernel_rfl) (by kernel_rfl) (by kernel_rfl) (fun _ _ => by kernel_rfl)
theorem noOwnUnsafe : Tryz.pinned.checked.prog.headLifts.contains "ownunsafe" = false := by kernel_rfl
theorem tie : Tryz.prog.laidByTextLater [("velarium/canvas.checks", Rows.laid_velarium_canvas_checks), ("velarium/terrain.checks", Rows.laid_velarium_terrain_checks)] [.funcs, .funcs] true :=
  Program.laidByTextLater.sub seatTie1 ["velarium/canvas.checks", "velarium/terrain.checks"] (by kernel_rfl) (by kernel_rfl)
theorem terrainOnCanvas_row_tie : Rows.terrainOnCanvasRow.laidByTextAt .later Tryz.pinned [.funcs, .funcs] true :=
  OpenClaim.laidByTextAt_later rfl rfl tie noOwnUnsafe
theorem terrainEyed_row_tie : Rows.terrainEyedRow.laidByTextAt .later Tryz.pinned [.funcs, .funcs] true :=
  OpenClaim.laidByTextAt_later rfl rfl tie noOwnUnsafe
end Go.Proofs.YtdgblangfefjmaaGreatDoor
