/-
  DERIVED. GIVEN WITH THE SEED: THE CARDS: each row of YtghbphimkgamkaaGreatDoorRows.lean that lists a variable, with what it lists TIED to the program's text (the seventh form; the later family's looks); each row that meets fmt, with fmt's text TOLD by the authors' own Lean function (tested against real Go, not proved from fmt's source: count such statements apart). THE CARD IS WHAT COUNTS. Prove the row's statement (the work); the ties are given (YtghbphimkgamkaaGreatDoorTie.lean); close each card by the builder's one call (the guide's Derived/Test/ToyasCard.lean, 'card_holds'). Laid BY PROGRAM, IN A SANDBOX (cutbox-door.mjs). By AI agents, Wed Nov 11 2026. No macro, syntax, notation, axiom, sorry.
-/
import Derived.Test.YtghbphimkgamkaaGreatDoorRows
import GoSem.ClaimSeven
namespace Go.Proofs.YtghbphimkgamkaaGreatDoor
namespace Rows

/-- THE TIED CARD OF 'velariumlaw04.TerrainPlans'. -/
def terrainPlansCard : Claim7 := { stood := { row := terrainPlansRow, standIns := [], harness := (true, "3933f6fd06ce3d38d5015abeb8b461b17ec6588f105a591bbab5c671ae83653c"), looks := false }, kinds := [], alts := [], goes := true, laidByText := true, laidKinds := [.funcs], laidTests := true, laidLooks := .later }
def TerrainPlansCardSaid : Prop := Claim7.holds Tryz.pinned (.plain (OpenSpec.ofChange terrainPlansSpec)) terrainPlansCard

/-- THE TIED CARD OF 'velariumlaw04.TerrainFewest'. -/
def terrainFewestCard : Claim7 := { stood := { row := terrainFewestRow, standIns := [], harness := (true, "3933f6fd06ce3d38d5015abeb8b461b17ec6588f105a591bbab5c671ae83653c"), looks := false }, kinds := [], alts := [], goes := true, laidByText := true, laidKinds := [.funcs], laidTests := true, laidLooks := .later }
def TerrainFewestCardSaid : Prop := Claim7.holds Tryz.pinned (.plain (OpenSpec.ofChange terrainFewestSpec)) terrainFewestCard

/-- THE TIED CARD OF 'velariumlaw04.TerrainLearnt'. -/
def terrainLearntCard : Claim7 := { stood := { row := terrainLearntRow, standIns := [], harness := (true, "3933f6fd06ce3d38d5015abeb8b461b17ec6588f105a591bbab5c671ae83653c"), looks := false }, kinds := [], alts := [], goes := true, laidByText := true, laidKinds := [.funcs], laidTests := true, laidLooks := .later }
def TerrainLearntCardSaid : Prop := Claim7.holds Tryz.pinned (.plain (OpenSpec.ofChange terrainLearntSpec)) terrainLearntCard

/-- THE TIED CARD OF 'velariumlaw04.TerrainAnyOrder'. -/
def terrainAnyOrderCard : Claim7 := { stood := { row := terrainAnyOrderRow, standIns := [], harness := (true, "3933f6fd06ce3d38d5015abeb8b461b17ec6588f105a591bbab5c671ae83653c"), looks := false }, kinds := [], alts := [], goes := true, laidByText := true, laidKinds := [.funcs], laidTests := true, laidLooks := .later }
def TerrainAnyOrderCardSaid : Prop := Claim7.holds Tryz.pinned (.plain (OpenSpec.ofChange terrainAnyOrderSpec)) terrainAnyOrderCard

/-- THE TIED CARD OF 'velariumlaw04.TerrainStates'. -/
def terrainStatesCard : Claim7 := { stood := { row := terrainStatesRow, standIns := [], harness := (true, "3933f6fd06ce3d38d5015abeb8b461b17ec6588f105a591bbab5c671ae83653c"), looks := false }, kinds := [], alts := [], goes := true, laidByText := true, laidKinds := [.funcs], laidTests := true, laidLooks := .later }
def TerrainStatesCardSaid : Prop := Claim7.holds Tryz.pinned (.plain (OpenSpec.ofChange terrainStatesSpec)) terrainStatesCard

/-- THE TIED CARD OF 'velariumlaw04.TerrainReal'. -/
def terrainRealCard : Claim7 := { stood := { row := terrainRealRow, standIns := [], harness := (true, "3933f6fd06ce3d38d5015abeb8b461b17ec6588f105a591bbab5c671ae83653c"), looks := false }, kinds := [], alts := [], goes := true, laidByText := true, laidKinds := [.funcs], laidTests := true, laidLooks := .later }
def TerrainRealCardSaid : Prop := Claim7.holds Tryz.pinned (.plain (OpenSpec.ofChange terrainRealSpec)) terrainRealCard
end Rows
end Go.Proofs.YtghbphimkgamkaaGreatDoor
