/-
  DERIVED. GIVEN WITH THE SEED: THE CARDS: each row of YtpgcmoanfifglaaGreatDoorRows.lean that lists a variable, with what it lists TIED to the program's text (the seventh form; the later family's looks); each row that meets fmt, with fmt's text TOLD by the authors' own Lean function (tested against real Go, not proved from fmt's source: count such statements apart). THE CARD IS WHAT COUNTS. Prove the row's statement (the work); the ties are given (YtpgcmoanfifglaaGreatDoorTie.lean); close each card by the builder's one call (the guide's Derived/Test/ToyasCard.lean, 'card_holds'). Laid BY PROGRAM, IN A SANDBOX (cutbox-door.mjs). By AI agents, Wed Nov 11 2026. No macro, syntax, notation, axiom, sorry.
-/
import Derived.Test.YtpgcmoanfifglaaGreatDoorRows
import GoSem.ClaimSeven
namespace Go.Proofs.YtpgcmoanfifglaaGreatDoor
namespace Rows

/-- THE TIED CARD OF 'velariumlaw04.TerrainReached'. -/
def terrainReachedCard : Claim7 := { stood := { row := terrainReachedRow, standIns := [], harness := (true, "f862b117fde5345128c9dad0b5277439a4d82570b182fbf97f4f501680ae2e28"), looks := false }, kinds := [], alts := [], goes := true, laidByText := true, laidKinds := [.funcs], laidTests := true, laidLooks := .later }
def TerrainReachedCardSaid : Prop := Claim7.holds Tryz.pinned (.plain (OpenSpec.ofChange terrainReachedSpec)) terrainReachedCard

/-- THE TIED CARD OF 'velariumlaw04.TerrainWorst'. -/
def terrainWorstCard : Claim7 := { stood := { row := terrainWorstRow, standIns := [], harness := (true, "f862b117fde5345128c9dad0b5277439a4d82570b182fbf97f4f501680ae2e28"), looks := false }, kinds := [], alts := [], goes := true, laidByText := true, laidKinds := [.funcs], laidTests := true, laidLooks := .later }
def TerrainWorstCardSaid : Prop := Claim7.holds Tryz.pinned (.plain (OpenSpec.ofChange terrainWorstSpec)) terrainWorstCard

/-- THE TIED CARD OF 'velariumlaw04.TerrainPaints'. -/
def terrainPaintsCard : Claim7 := { stood := { row := terrainPaintsRow, standIns := [], harness := (true, "f862b117fde5345128c9dad0b5277439a4d82570b182fbf97f4f501680ae2e28"), looks := false }, kinds := [], alts := [], goes := true, laidByText := true, laidKinds := [.funcs], laidTests := true, laidLooks := .later }
def TerrainPaintsCardSaid : Prop := Claim7.holds Tryz.pinned (.plain (OpenSpec.ofChange terrainPaintsSpec)) terrainPaintsCard

/-- THE TIED CARD OF 'velariumlaw04.TerrainBanded'. -/
def terrainBandedCard : Claim7 := { stood := { row := terrainBandedRow, standIns := [], harness := (true, "f862b117fde5345128c9dad0b5277439a4d82570b182fbf97f4f501680ae2e28"), looks := false }, kinds := [], alts := [], goes := true, laidByText := true, laidKinds := [.funcs], laidTests := true, laidLooks := .later }
def TerrainBandedCardSaid : Prop := Claim7.holds Tryz.pinned (.plain (OpenSpec.ofChange terrainBandedSpec)) terrainBandedCard

/-- THE TIED CARD OF 'velariumlaw04.TerrainLearnt'. -/
def terrainLearntCard : Claim7 := { stood := { row := terrainLearntRow, standIns := [], harness := (true, "f862b117fde5345128c9dad0b5277439a4d82570b182fbf97f4f501680ae2e28"), looks := false }, kinds := [], alts := [], goes := true, laidByText := true, laidKinds := [.funcs], laidTests := true, laidLooks := .later }
def TerrainLearntCardSaid : Prop := Claim7.holds Tryz.pinned (.plain (OpenSpec.ofChange terrainLearntSpec)) terrainLearntCard

/-- THE TIED CARD OF 'velariumlaw04.TerrainStood'. -/
def terrainStoodCard : Claim7 := { stood := { row := terrainStoodRow, standIns := [], harness := (true, "f862b117fde5345128c9dad0b5277439a4d82570b182fbf97f4f501680ae2e28"), looks := false }, kinds := [], alts := [], goes := true, laidByText := true, laidKinds := [.funcs], laidTests := true, laidLooks := .later }
def TerrainStoodCardSaid : Prop := Claim7.holds Tryz.pinned (.plain (OpenSpec.ofChange terrainStoodSpec)) terrainStoodCard

/-- THE TIED CARD OF 'velariumlaw04.TerrainFewest'. -/
def terrainFewestCard : Claim7 := { stood := { row := terrainFewestRow, standIns := [], harness := (true, "f862b117fde5345128c9dad0b5277439a4d82570b182fbf97f4f501680ae2e28"), looks := false }, kinds := [], alts := [], goes := true, laidByText := true, laidKinds := [.funcs], laidTests := true, laidLooks := .later }
def TerrainFewestCardSaid : Prop := Claim7.holds Tryz.pinned (.plain (OpenSpec.ofChange terrainFewestSpec)) terrainFewestCard

/-- THE TIED CARD OF 'velariumlaw04.TerrainAnyOrder'. -/
def terrainAnyOrderCard : Claim7 := { stood := { row := terrainAnyOrderRow, standIns := [], harness := (true, "f862b117fde5345128c9dad0b5277439a4d82570b182fbf97f4f501680ae2e28"), looks := false }, kinds := [], alts := [], goes := true, laidByText := true, laidKinds := [.funcs], laidTests := true, laidLooks := .later }
def TerrainAnyOrderCardSaid : Prop := Claim7.holds Tryz.pinned (.plain (OpenSpec.ofChange terrainAnyOrderSpec)) terrainAnyOrderCard

/-- THE TIED CARD OF 'velariumlaw04.TerrainReal'. -/
def terrainRealCard : Claim7 := { stood := { row := terrainRealRow, standIns := [], harness := (true, "f862b117fde5345128c9dad0b5277439a4d82570b182fbf97f4f501680ae2e28"), looks := false }, kinds := [], alts := [], goes := true, laidByText := true, laidKinds := [.funcs], laidTests := true, laidLooks := .later }
def TerrainRealCardSaid : Prop := Claim7.holds Tryz.pinned (.plain (OpenSpec.ofChange terrainRealSpec)) terrainRealCard
end Rows
end Go.Proofs.YtpgcmoanfifglaaGreatDoor
