/-
  DERIVED. GIVEN WITH THE SEED: THE CARDS: each row of YtjepffnffjdloaaGreatDoorRows.lean that lists a variable, with what it lists TIED to the program's text (the seventh form; the later family's looks); each row that meets fmt, with fmt's text TOLD by the authors' own Lean function (tested against real Go, not proved from fmt's source: count such statements apart). THE CARD IS WHAT COUNTS. Prove the row's statement (the work); the ties are given (YtjepffnffjdloaaGreatDoorTie.lean); close each card by the builder's one call (the guide's Derived/Test/ToyasCard.lean, 'card_holds'). Laid BY PROGRAM, IN A SANDBOX (cutbox-door.mjs). By AI agents, Wed Nov 11 2026. No macro, syntax, notation, axiom, sorry.
-/
import Derived.Test.YtjepffnffjdloaaGreatDoorRows
import GoSem.ClaimSeven
namespace Go.Proofs.YtjepffnffjdloaaGreatDoor
namespace Rows

/-- THE TIED CARD OF 'velariumlaw04.TerrainExact'. -/
def terrainExactCard : Claim7 := { stood := { row := terrainExactRow, standIns := [], harness := (true, "64230ae704875298989d6401e51e805269fe085a0ba3c1c8a661d2df2d243933"), looks := false }, kinds := [], alts := [], goes := true, laidByText := true, laidKinds := [.funcs], laidTests := true, laidLooks := .later }
def TerrainExactCardSaid : Prop := Claim7.holds Tryz.pinned (.plain (OpenSpec.ofChange terrainExactSpec)) terrainExactCard

/-- THE TIED CARD OF 'velariumlaw04.TerrainParted'. -/
def terrainPartedCard : Claim7 := { stood := { row := terrainPartedRow, standIns := [], harness := (true, "64230ae704875298989d6401e51e805269fe085a0ba3c1c8a661d2df2d243933"), looks := false }, kinds := [], alts := [], goes := true, laidByText := true, laidKinds := [.funcs], laidTests := true, laidLooks := .later }
def TerrainPartedCardSaid : Prop := Claim7.holds Tryz.pinned (.plain (OpenSpec.ofChange terrainPartedSpec)) terrainPartedCard

/-- THE TIED CARD OF 'velariumlaw04.TerrainAlike'. -/
def terrainAlikeCard : Claim7 := { stood := { row := terrainAlikeRow, standIns := [], harness := (true, "64230ae704875298989d6401e51e805269fe085a0ba3c1c8a661d2df2d243933"), looks := false }, kinds := [], alts := [], goes := true, laidByText := true, laidKinds := [.funcs], laidTests := true, laidLooks := .later }
def TerrainAlikeCardSaid : Prop := Claim7.holds Tryz.pinned (.plain (OpenSpec.ofChange terrainAlikeSpec)) terrainAlikeCard

/-- THE TIED CARD OF 'velariumlaw04.TerrainShown'. -/
def terrainShownCard : Claim7 := { stood := { row := terrainShownRow, standIns := [], harness := (true, "64230ae704875298989d6401e51e805269fe085a0ba3c1c8a661d2df2d243933"), looks := false }, kinds := [], alts := [], goes := true, laidByText := true, laidKinds := [.funcs], laidTests := true, laidLooks := .later }
def TerrainShownCardSaid : Prop := Claim7.holds Tryz.pinned (.plain (OpenSpec.ofChange terrainShownSpec)) terrainShownCard

/-- THE TIED CARD OF 'velariumlaw04.TerrainClashes'. -/
def terrainClashesCard : Claim7 := { stood := { row := terrainClashesRow, standIns := [], harness := (true, "64230ae704875298989d6401e51e805269fe085a0ba3c1c8a661d2df2d243933"), looks := false }, kinds := [], alts := [], goes := true, laidByText := true, laidKinds := [.funcs], laidTests := true, laidLooks := .later }
def TerrainClashesCardSaid : Prop := Claim7.holds Tryz.pinned (.plain (OpenSpec.ofChange terrainClashesSpec)) terrainClashesCard

/-- THE TIED CARD OF 'velariumlaw04.TerrainAsked'. -/
def terrainAskedCard : Claim7 := { stood := { row := terrainAskedRow, standIns := [], harness := (true, "64230ae704875298989d6401e51e805269fe085a0ba3c1c8a661d2df2d243933"), looks := false }, kinds := [], alts := [], goes := true, laidByText := true, laidKinds := [.funcs], laidTests := true, laidLooks := .later }
def TerrainAskedCardSaid : Prop := Claim7.holds Tryz.pinned (.plain (OpenSpec.ofChange terrainAskedSpec)) terrainAskedCard
end Rows
end Go.Proofs.YtjepffnffjdloaaGreatDoor
