/-
  DERIVED. GIVEN WITH THE SEED: THE CARDS: each row of YtnaejeiofbpbkaaGreatDoorRows.lean that lists a variable, with what it lists TIED to the program's text (the seventh form; the later family's looks); each row that meets fmt, with fmt's text TOLD by the authors' own Lean function (tested against real Go, not proved from fmt's source: count such statements apart). THE CARD IS WHAT COUNTS. Prove the row's statement (the work); the ties are given (YtnaejeiofbpbkaaGreatDoorTie.lean); close each card by the builder's one call (the guide's Derived/Test/ToyasCard.lean, 'card_holds'). Laid BY PROGRAM, IN A SANDBOX (cutbox-door.mjs). By AI agents, Wed Nov 11 2026. No macro, syntax, notation, axiom, sorry.
-/
import Derived.Test.YtnaejeiofbpbkaaGreatDoorRows
import GoSem.ClaimSeven
namespace Go.Proofs.YtnaejeiofbpbkaaGreatDoor
namespace Rows

/-- THE TIED CARD OF 'velariumlaw04.TerrainPlans'. -/
def terrainPlansCard : Claim7 := { stood := { row := terrainPlansRow, standIns := [], harness := (true, "5d2e564d8be8c1868403c669563ec38578e7fc5942600396a2438b3f240a7fb1"), looks := false }, kinds := [], alts := [], goes := true, laidByText := true, laidKinds := [.funcs], laidTests := true, laidLooks := .later }
def TerrainPlansCardSaid : Prop := Claim7.holds Tryz.pinned (.plain (OpenSpec.ofChange terrainPlansSpec)) terrainPlansCard

/-- THE TIED CARD OF 'velariumlaw04.TerrainAnyOrder'. -/
def terrainAnyOrderCard : Claim7 := { stood := { row := terrainAnyOrderRow, standIns := [], harness := (true, "5d2e564d8be8c1868403c669563ec38578e7fc5942600396a2438b3f240a7fb1"), looks := false }, kinds := [], alts := [], goes := true, laidByText := true, laidKinds := [.funcs], laidTests := true, laidLooks := .later }
def TerrainAnyOrderCardSaid : Prop := Claim7.holds Tryz.pinned (.plain (OpenSpec.ofChange terrainAnyOrderSpec)) terrainAnyOrderCard

/-- THE TIED CARD OF 'velariumlaw04.TerrainStates'. -/
def terrainStatesCard : Claim7 := { stood := { row := terrainStatesRow, standIns := [], harness := (true, "5d2e564d8be8c1868403c669563ec38578e7fc5942600396a2438b3f240a7fb1"), looks := false }, kinds := [], alts := [], goes := true, laidByText := true, laidKinds := [.funcs], laidTests := true, laidLooks := .later }
def TerrainStatesCardSaid : Prop := Claim7.holds Tryz.pinned (.plain (OpenSpec.ofChange terrainStatesSpec)) terrainStatesCard

/-- THE TIED CARD OF 'velariumlaw04.TerrainReal'. -/
def terrainRealCard : Claim7 := { stood := { row := terrainRealRow, standIns := [], harness := (true, "5d2e564d8be8c1868403c669563ec38578e7fc5942600396a2438b3f240a7fb1"), looks := false }, kinds := [], alts := [], goes := true, laidByText := true, laidKinds := [.funcs], laidTests := true, laidLooks := .later }
def TerrainRealCardSaid : Prop := Claim7.holds Tryz.pinned (.plain (OpenSpec.ofChange terrainRealSpec)) terrainRealCard
end Rows
end Go.Proofs.YtnaejeiofbpbkaaGreatDoor
