/-
  DERIVED. GIVEN WITH THE SEED: THE CARDS: each row of YtipgiooobncfbaaGreatDoorRows.lean that lists a variable, with what it lists TIED to the program's text (the seventh form; the later family's looks); each row that meets fmt, with fmt's text TOLD by the authors' own Lean function (tested against real Go, not proved from fmt's source: count such statements apart). THE CARD IS WHAT COUNTS. Prove the row's statement (the work); the ties are given (YtipgiooobncfbaaGreatDoorTie.lean); close each card by the builder's one call (the guide's Derived/Test/ToyasCard.lean, 'card_holds'). Laid BY PROGRAM, IN A SANDBOX (cutbox-door.mjs). By AI agents, Wed Nov 11 2026. No macro, syntax, notation, axiom, sorry.
-/
import Derived.Test.YtipgiooobncfbaaGreatDoorRows
import GoSem.ClaimSeven
namespace Go.Proofs.YtipgiooobncfbaaGreatDoor
namespace Rows

/-- THE TIED CARD OF 'velariumlaw04.TerrainLines'. -/
def terrainLinesCard : Claim7 := { stood := { row := terrainLinesRow, standIns := [], harness := (true, "74078c9016ff7435a620452141671c7ce056ef31365e2ede0d42399537ddef74"), looks := false }, kinds := [], alts := [], goes := true, laidByText := true, laidKinds := [.funcs], laidTests := true, laidLooks := .later }
def TerrainLinesCardSaid : Prop := Claim7.holds Tryz.pinned (.plain (OpenSpec.ofChange terrainLinesSpec)) terrainLinesCard

/-- THE TIED CARD OF 'velariumlaw04.TerrainPlans'. -/
def terrainPlansCard : Claim7 := { stood := { row := terrainPlansRow, standIns := [], harness := (true, "74078c9016ff7435a620452141671c7ce056ef31365e2ede0d42399537ddef74"), looks := false }, kinds := [], alts := [], goes := true, laidByText := true, laidKinds := [.funcs], laidTests := true, laidLooks := .later }
def TerrainPlansCardSaid : Prop := Claim7.holds Tryz.pinned (.plain (OpenSpec.ofChange terrainPlansSpec)) terrainPlansCard

/-- THE TIED CARD OF 'velariumlaw04.TerrainNews'. -/
def terrainNewsCard : Claim7 := { stood := { row := terrainNewsRow, standIns := [], harness := (true, "74078c9016ff7435a620452141671c7ce056ef31365e2ede0d42399537ddef74"), looks := false }, kinds := [], alts := [], goes := true, laidByText := true, laidKinds := [.funcs], laidTests := true, laidLooks := .later }
def TerrainNewsCardSaid : Prop := Claim7.holds Tryz.pinned (.plain (OpenSpec.ofChange terrainNewsSpec)) terrainNewsCard
end Rows
end Go.Proofs.YtipgiooobncfbaaGreatDoor
