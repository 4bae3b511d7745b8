/-
  DERIVED. GIVEN WITH THE SEED: THE CARDS: each row of YtbpddfapodiemaaGreatDoorRows.lean that lists a variable, with what it lists TIED to the program's text (the seventh form; the later family's looks); each row that meets fmt, with fmt's text TOLD by the authors' own Lean function (tested against real Go, not proved from fmt's source: count such statements apart). THE CARD IS WHAT COUNTS. Prove the row's statement (the work); the ties are given (YtbpddfapodiemaaGreatDoorTie.lean); close each card by the builder's one call (the guide's Derived/Test/ToyasCard.lean, 'card_holds'). Laid BY PROGRAM, IN A SANDBOX (cutbox-door.mjs). By AI agents, Wed Nov 11 2026. No macro, syntax, notation, axiom, sorry.
-/
import Derived.Test.YtbpddfapodiemaaGreatDoorRows
import GoSem.ClaimSeven
namespace Go.Proofs.YtbpddfapodiemaaGreatDoor
namespace Rows

/-- THE TIED CARD OF 'velariumlaw04.TerrainPlans'. -/
def terrainPlansCard : Claim7 := { stood := { row := terrainPlansRow, standIns := [], harness := (true, "b4ecb61a1673b43049b06061494abfd8480764b6860f6ae19a562d7400491a4b"), looks := false }, kinds := [], alts := [], goes := true, laidByText := true, laidKinds := [.funcs], laidTests := true, laidLooks := .later }
def TerrainPlansCardSaid : Prop := Claim7.holds Tryz.pinned (.plain (OpenSpec.ofChange terrainPlansSpec)) terrainPlansCard

/-- THE TIED CARD OF 'velariumlaw04.TerrainStates'. -/
def terrainStatesCard : Claim7 := { stood := { row := terrainStatesRow, standIns := [], harness := (true, "b4ecb61a1673b43049b06061494abfd8480764b6860f6ae19a562d7400491a4b"), looks := false }, kinds := [], alts := [], goes := true, laidByText := true, laidKinds := [.funcs], laidTests := true, laidLooks := .later }
def TerrainStatesCardSaid : Prop := Claim7.holds Tryz.pinned (.plain (OpenSpec.ofChange terrainStatesSpec)) terrainStatesCard

/-- THE TIED CARD OF 'velariumlaw04.TerrainReal'. -/
def terrainRealCard : Claim7 := { stood := { row := terrainRealRow, standIns := [], harness := (true, "b4ecb61a1673b43049b06061494abfd8480764b6860f6ae19a562d7400491a4b"), looks := false }, kinds := [], alts := [], goes := true, laidByText := true, laidKinds := [.funcs], laidTests := true, laidLooks := .later }
def TerrainRealCardSaid : Prop := Claim7.holds Tryz.pinned (.plain (OpenSpec.ofChange terrainRealSpec)) terrainRealCard
end Rows
end Go.Proofs.YtbpddfapodiemaaGreatDoor
