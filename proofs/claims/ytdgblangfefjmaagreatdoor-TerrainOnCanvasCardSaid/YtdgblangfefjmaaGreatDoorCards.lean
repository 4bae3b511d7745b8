/-
  DERIVED. GIVEN WITH THE SEED: THE CARDS: each row of YtdgblangfefjmaaGreatDoorRows.lean that lists a variable, with what it lists TIED to the program's text (the seventh form; the later family's looks); each row that meets fmt, with fmt's text TOLD by the authors' own Lean function (tested against real Go, not proved from fmt's source: count such statements apart). THE CARD IS WHAT COUNTS. Prove the row's statement (the work); the ties are given (YtdgblangfefjmaaGreatDoorTie.lean); close each card by the builder's one call (the guide's Derived/Test/ToyasCard.lean, 'card_holds'). Laid BY PROGRAM, IN A SANDBOX (cutbox-door.mjs). By AI agents, Wed Nov 11 2026. No macro, syntax, notation, axiom, sorry.
-/
import Derived.Test.YtdgblangfefjmaaGreatDoorRows
import GoSem.ClaimSeven
namespace Go.Proofs.YtdgblangfefjmaaGreatDoor
namespace Rows

/-- THE TIED CARD OF 'velariumlaw04.TerrainOnCanvas'. -/
def terrainOnCanvasCard : Claim7 := { stood := { row := terrainOnCanvasRow, standIns := [], harness := (true, "29a287ccacfb91b5b374a067dda4ea95c94d1723d715b69ede0abfc962137246"), looks := false }, kinds := [], alts := [], goes := true, laidByText := true, laidKinds := [.funcs, .funcs], laidTests := true, laidLooks := .later }
def TerrainOnCanvasCardSaid : Prop := Claim7.holds Tryz.pinned (.plain (OpenSpec.ofChange terrainOnCanvasSpec)) terrainOnCanvasCard

/-- THE TIED CARD OF 'velariumlaw04.TerrainEyed'. -/
def terrainEyedCard : Claim7 := { stood := { row := terrainEyedRow, standIns := [], harness := (true, "29a287ccacfb91b5b374a067dda4ea95c94d1723d715b69ede0abfc962137246"), looks := false }, kinds := [], alts := [], goes := true, laidByText := true, laidKinds := [.funcs, .funcs], laidTests := true, laidLooks := .later }
def TerrainEyedCardSaid : Prop := Claim7.holds Tryz.pinned (.plain (OpenSpec.ofChange terrainEyedSpec)) terrainEyedCard
end Rows
end Go.Proofs.YtdgblangfefjmaaGreatDoor
