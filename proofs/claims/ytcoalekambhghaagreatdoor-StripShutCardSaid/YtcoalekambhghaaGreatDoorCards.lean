/-
  DERIVED. GIVEN WITH THE SEED: THE CARDS: each row of YtcoalekambhghaaGreatDoorRows.lean that lists a variable, with what it lists TIED to the program's text (the seventh form; the later family's looks); each row that meets fmt, with fmt's text TOLD by the authors' own Lean function (tested against real Go, not proved from fmt's source: count such statements apart). THE CARD IS WHAT COUNTS. Prove the row's statement (the work); the ties are given (YtcoalekambhghaaGreatDoorTie.lean); close each card by the builder's one call (the guide's Derived/Test/ToyasCard.lean, 'card_holds'). Laid BY PROGRAM, IN A SANDBOX (cutbox-door.mjs). By AI agents, Wed Nov 11 2026. No macro, syntax, notation, axiom, sorry.
-/
import Derived.Test.YtcoalekambhghaaGreatDoorRows
import GoSem.ClaimSeven
namespace Go.Proofs.YtcoalekambhghaaGreatDoor
namespace Rows

/-- THE TIED CARD OF 'velariumlaw01.StripStates'. -/
def stripStatesCard : Claim7 := { stood := { row := stripStatesRow, standIns := [], harness := (true, "6e93537f4542a3785471ec690abb0a9608a4751997b2f658461eb156b5c062e9"), looks := false }, kinds := [], alts := [], goes := true, laidByText := true, laidKinds := [.funcs], laidTests := true, laidLooks := .later }
def StripStatesCardSaid : Prop := Claim7.holds Tryz.pinned (.plain (OpenSpec.ofChange stripStatesSpec)) stripStatesCard

/-- THE TIED CARD OF 'velariumlaw01.StripShut'. -/
def stripShutCard : Claim7 := { stood := { row := stripShutRow, standIns := [], harness := (true, "6e93537f4542a3785471ec690abb0a9608a4751997b2f658461eb156b5c062e9"), looks := false }, kinds := [], alts := [], goes := true, laidByText := true, laidKinds := [.funcs], laidTests := true, laidLooks := .later }
def StripShutCardSaid : Prop := Claim7.holds Tryz.pinned (.plain (OpenSpec.ofChange stripShutSpec)) stripShutCard

/-- THE TIED CARD OF 'velariumlaw01.StripMore'. -/
def stripMoreCard : Claim7 := { stood := { row := stripMoreRow, standIns := [], harness := (true, "6e93537f4542a3785471ec690abb0a9608a4751997b2f658461eb156b5c062e9"), looks := false }, kinds := [], alts := [], goes := true, laidByText := true, laidKinds := [.funcs], laidTests := true, laidLooks := .later }
def StripMoreCardSaid : Prop := Claim7.holds Tryz.pinned (.plain (OpenSpec.ofChange stripMoreSpec)) stripMoreCard

/-- THE TIED CARD OF 'velariumlaw01.StripNews'. -/
def stripNewsCard : Claim7 := { stood := { row := stripNewsRow, standIns := [], harness := (true, "6e93537f4542a3785471ec690abb0a9608a4751997b2f658461eb156b5c062e9"), looks := false }, kinds := [], alts := [], goes := true, laidByText := true, laidKinds := [.funcs], laidTests := true, laidLooks := .later }
def StripNewsCardSaid : Prop := Claim7.holds Tryz.pinned (.plain (OpenSpec.ofChange stripNewsSpec)) stripNewsCard

/-- THE TIED CARD OF 'velariumlaw01.StripFewest'. -/
def stripFewestCard : Claim7 := { stood := { row := stripFewestRow, standIns := [], harness := (true, "6e93537f4542a3785471ec690abb0a9608a4751997b2f658461eb156b5c062e9"), looks := false }, kinds := [], alts := [], goes := true, laidByText := true, laidKinds := [.funcs], laidTests := true, laidLooks := .later }
def StripFewestCardSaid : Prop := Claim7.holds Tryz.pinned (.plain (OpenSpec.ofChange stripFewestSpec)) stripFewestCard

/-- THE TIED CARD OF 'velariumlaw01.StripClashes'. -/
def stripClashesCard : Claim7 := { stood := { row := stripClashesRow, standIns := [], harness := (true, "6e93537f4542a3785471ec690abb0a9608a4751997b2f658461eb156b5c062e9"), looks := false }, kinds := [], alts := [], goes := true, laidByText := true, laidKinds := [.funcs], laidTests := true, laidLooks := .later }
def StripClashesCardSaid : Prop := Claim7.holds Tryz.pinned (.plain (OpenSpec.ofChange stripClashesSpec)) stripClashesCard

/-- THE SECOND FORM's CARD OF 'velariumlaw01.StripStates'. -/
def stripStatesUptoCard : Claim7 := { stood := { row := stripStatesUptoRow, standIns := [], harness := (true, "6e93537f4542a3785471ec690abb0a9608a4751997b2f658461eb156b5c062e9"), looks := false }, kinds := [], alts := [], goes := true, laidByText := true, laidKinds := [.funcs], laidTests := true, laidLooks := .later }
def StripStatesUptoCardSaid : Prop := Claim7.holds Tryz.pinned (.plain (OpenSpec.upto stripStatesSpec)) stripStatesUptoCard

/-- THE SECOND FORM's CARD OF 'velariumlaw01.StripShut'. -/
def stripShutUptoCard : Claim7 := { stood := { row := stripShutUptoRow, standIns := [], harness := (true, "6e93537f4542a3785471ec690abb0a9608a4751997b2f658461eb156b5c062e9"), looks := false }, kinds := [], alts := [], goes := true, laidByText := true, laidKinds := [.funcs], laidTests := true, laidLooks := .later }
def StripShutUptoCardSaid : Prop := Claim7.holds Tryz.pinned (.plain (OpenSpec.upto stripShutSpec)) stripShutUptoCard

/-- THE SECOND FORM's CARD OF 'velariumlaw01.StripMore'. -/
def stripMoreUptoCard : Claim7 := { stood := { row := stripMoreUptoRow, standIns := [], harness := (true, "6e93537f4542a3785471ec690abb0a9608a4751997b2f658461eb156b5c062e9"), looks := false }, kinds := [], alts := [], goes := true, laidByText := true, laidKinds := [.funcs], laidTests := true, laidLooks := .later }
def StripMoreUptoCardSaid : Prop := Claim7.holds Tryz.pinned (.plain (OpenSpec.upto stripMoreSpec)) stripMoreUptoCard

/-- THE SECOND FORM's CARD OF 'velariumlaw01.StripNews'. -/
def stripNewsUptoCard : Claim7 := { stood := { row := stripNewsUptoRow, standIns := [], harness := (true, "6e93537f4542a3785471ec690abb0a9608a4751997b2f658461eb156b5c062e9"), looks := false }, kinds := [], alts := [], goes := true, laidByText := true, laidKinds := [.funcs], laidTests := true, laidLooks := .later }
def StripNewsUptoCardSaid : Prop := Claim7.holds Tryz.pinned (.plain (OpenSpec.upto stripNewsSpec)) stripNewsUptoCard

/-- THE SECOND FORM's CARD OF 'velariumlaw01.StripFewest'. -/
def stripFewestUptoCard : Claim7 := { stood := { row := stripFewestUptoRow, standIns := [], harness := (true, "6e93537f4542a3785471ec690abb0a9608a4751997b2f658461eb156b5c062e9"), looks := false }, kinds := [], alts := [], goes := true, laidByText := true, laidKinds := [.funcs], laidTests := true, laidLooks := .later }
def StripFewestUptoCardSaid : Prop := Claim7.holds Tryz.pinned (.plain (OpenSpec.upto stripFewestSpec)) stripFewestUptoCard

/-- THE SECOND FORM's CARD OF 'velariumlaw01.StripClashes'. -/
def stripClashesUptoCard : Claim7 := { stood := { row := stripClashesUptoRow, standIns := [], harness := (true, "6e93537f4542a3785471ec690abb0a9608a4751997b2f658461eb156b5c062e9"), looks := false }, kinds := [], alts := [], goes := true, laidByText := true, laidKinds := [.funcs], laidTests := true, laidLooks := .later }
def StripClashesUptoCardSaid : Prop := Claim7.holds Tryz.pinned (.plain (OpenSpec.upto stripClashesSpec)) stripClashesUptoCard
end Rows
end Go.Proofs.YtcoalekambhghaaGreatDoor
