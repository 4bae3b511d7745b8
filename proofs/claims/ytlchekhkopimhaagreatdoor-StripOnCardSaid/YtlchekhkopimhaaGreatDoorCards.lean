/-
  DERIVED. GIVEN WITH THE SEED: THE CARDS: each row of YtlchekhkopimhaaGreatDoorRows.lean that lists a variable, with what it lists TIED to the program's text (the seventh form; the later family's looks); each row that meets fmt, with fmt's text TOLD by the authors' own Lean function (tested against real Go, not proved from fmt's source: count such statements apart). THE CARD IS WHAT COUNTS. Prove the row's statement (the work); the ties are given (YtlchekhkopimhaaGreatDoorTie.lean); close each card by the builder's one call (the guide's Derived/Test/ToyasCard.lean, 'card_holds'). Laid BY PROGRAM, IN A SANDBOX (cutbox-door.mjs). By AI agents, Wed Nov 11 2026. No macro, syntax, notation, axiom, sorry.
-/
import Derived.Test.YtlchekhkopimhaaGreatDoorRows
import GoSem.ClaimSeven
namespace Go.Proofs.YtlchekhkopimhaaGreatDoor
namespace Rows

/-- THE TIED CARD OF 'velariumlaw01.StripOn'. -/
def stripOnCard : Claim7 := { stood := { row := stripOnRow, standIns := [], harness := (true, "6948e196cc7639a386f161b8c348245fb331f6e4d581db3d6df906965ac3d89f"), looks := false }, kinds := [], alts := [], goes := true, laidByText := true, laidKinds := [.funcs], laidTests := true, laidLooks := .later }
def StripOnCardSaid : Prop := Claim7.holds Tryz.pinned (.plain (OpenSpec.ofChange stripOnSpec)) stripOnCard

/-- THE TIED CARD OF 'velariumlaw01.StripMore'. -/
def stripMoreCard : Claim7 := { stood := { row := stripMoreRow, standIns := [], harness := (true, "6948e196cc7639a386f161b8c348245fb331f6e4d581db3d6df906965ac3d89f"), looks := false }, kinds := [], alts := [], goes := true, laidByText := true, laidKinds := [.funcs], laidTests := true, laidLooks := .later }
def StripMoreCardSaid : Prop := Claim7.holds Tryz.pinned (.plain (OpenSpec.ofChange stripMoreSpec)) stripMoreCard

/-- THE TIED CARD OF 'velariumlaw01.StripNoOthers'. -/
def stripNoOthersCard : Claim7 := { stood := { row := stripNoOthersRow, standIns := [], harness := (true, "6948e196cc7639a386f161b8c348245fb331f6e4d581db3d6df906965ac3d89f"), looks := false }, kinds := [], alts := [], goes := true, laidByText := true, laidKinds := [.funcs], laidTests := true, laidLooks := .later }
def StripNoOthersCardSaid : Prop := Claim7.holds Tryz.pinned (.plain (OpenSpec.ofChange stripNoOthersSpec)) stripNoOthersCard

/-- THE TIED CARD OF 'velariumlaw01.StripAsked'. -/
def stripAskedCard : Claim7 := { stood := { row := stripAskedRow, standIns := [], harness := (true, "6948e196cc7639a386f161b8c348245fb331f6e4d581db3d6df906965ac3d89f"), looks := false }, kinds := [], alts := [], goes := true, laidByText := true, laidKinds := [.funcs], laidTests := true, laidLooks := .later }
def StripAskedCardSaid : Prop := Claim7.holds Tryz.pinned (.plain (OpenSpec.ofChange stripAskedSpec)) stripAskedCard

/-- THE TIED CARD OF 'velariumlaw01.StripKnown'. -/
def stripKnownCard : Claim7 := { stood := { row := stripKnownRow, standIns := [], harness := (true, "6948e196cc7639a386f161b8c348245fb331f6e4d581db3d6df906965ac3d89f"), looks := false }, kinds := [], alts := [], goes := true, laidByText := true, laidKinds := [.funcs], laidTests := true, laidLooks := .later }
def StripKnownCardSaid : Prop := Claim7.holds Tryz.pinned (.plain (OpenSpec.ofChange stripKnownSpec)) stripKnownCard

/-- THE TIED CARD OF 'velariumlaw01.StripLearnt'. -/
def stripLearntCard : Claim7 := { stood := { row := stripLearntRow, standIns := [], harness := (true, "6948e196cc7639a386f161b8c348245fb331f6e4d581db3d6df906965ac3d89f"), looks := false }, kinds := [], alts := [], goes := true, laidByText := true, laidKinds := [.funcs], laidTests := true, laidLooks := .later }
def StripLearntCardSaid : Prop := Claim7.holds Tryz.pinned (.plain (OpenSpec.ofChange stripLearntSpec)) stripLearntCard

/-- THE TIED CARD OF 'velariumlaw01.StripHung'. -/
def stripHungCard : Claim7 := { stood := { row := stripHungRow, standIns := [], harness := (true, "6948e196cc7639a386f161b8c348245fb331f6e4d581db3d6df906965ac3d89f"), looks := false }, kinds := [], alts := [], goes := true, laidByText := true, laidKinds := [.funcs], laidTests := true, laidLooks := .later }
def StripHungCardSaid : Prop := Claim7.holds Tryz.pinned (.plain (OpenSpec.ofChange stripHungSpec)) stripHungCard

/-- THE TIED CARD OF 'velariumlaw01.StripLifted'. -/
def stripLiftedCard : Claim7 := { stood := { row := stripLiftedRow, standIns := [], harness := (true, "6948e196cc7639a386f161b8c348245fb331f6e4d581db3d6df906965ac3d89f"), looks := false }, kinds := [], alts := [], goes := true, laidByText := true, laidKinds := [.funcs], laidTests := true, laidLooks := .later }
def StripLiftedCardSaid : Prop := Claim7.holds Tryz.pinned (.plain (OpenSpec.ofChange stripLiftedSpec)) stripLiftedCard

/-- THE TIED CARD OF 'velariumlaw01.StripAnyOrder'. -/
def stripAnyOrderCard : Claim7 := { stood := { row := stripAnyOrderRow, standIns := [], harness := (true, "6948e196cc7639a386f161b8c348245fb331f6e4d581db3d6df906965ac3d89f"), looks := false }, kinds := [], alts := [], goes := true, laidByText := true, laidKinds := [.funcs], laidTests := true, laidLooks := .later }
def StripAnyOrderCardSaid : Prop := Claim7.holds Tryz.pinned (.plain (OpenSpec.ofChange stripAnyOrderSpec)) stripAnyOrderCard

/-- THE TIED CARD OF 'velariumlaw01.StripReal'. -/
def stripRealCard : Claim7 := { stood := { row := stripRealRow, standIns := [], harness := (true, "6948e196cc7639a386f161b8c348245fb331f6e4d581db3d6df906965ac3d89f"), looks := false }, kinds := [], alts := [], goes := true, laidByText := true, laidKinds := [.funcs], laidTests := true, laidLooks := .later }
def StripRealCardSaid : Prop := Claim7.holds Tryz.pinned (.plain (OpenSpec.ofChange stripRealSpec)) stripRealCard

/-- THE TIED CARD OF 'velariumlaw01.StripCloses'. -/
def stripClosesCard : Claim7 := { stood := { row := stripClosesRow, standIns := [], harness := (true, "6948e196cc7639a386f161b8c348245fb331f6e4d581db3d6df906965ac3d89f"), looks := false }, kinds := [], alts := [], goes := true, laidByText := true, laidKinds := [.funcs], laidTests := true, laidLooks := .later }
def StripClosesCardSaid : Prop := Claim7.holds Tryz.pinned (.plain (OpenSpec.ofChange stripClosesSpec)) stripClosesCard

/-- THE TIED CARD OF 'velariumlaw01.StripWorst'. -/
def stripWorstCard : Claim7 := { stood := { row := stripWorstRow, standIns := [], harness := (true, "6948e196cc7639a386f161b8c348245fb331f6e4d581db3d6df906965ac3d89f"), looks := false }, kinds := [], alts := [], goes := true, laidByText := true, laidKinds := [.funcs], laidTests := true, laidLooks := .later }
def StripWorstCardSaid : Prop := Claim7.holds Tryz.pinned (.plain (OpenSpec.ofChange stripWorstSpec)) stripWorstCard

/-- THE TIED CARD OF 'velariumlaw01.StripNews'. -/
def stripNewsCard : Claim7 := { stood := { row := stripNewsRow, standIns := [], harness := (true, "6948e196cc7639a386f161b8c348245fb331f6e4d581db3d6df906965ac3d89f"), looks := false }, kinds := [], alts := [], goes := true, laidByText := true, laidKinds := [.funcs], laidTests := true, laidLooks := .later }
def StripNewsCardSaid : Prop := Claim7.holds Tryz.pinned (.plain (OpenSpec.ofChange stripNewsSpec)) stripNewsCard

/-- THE SECOND FORM's CARD OF 'velariumlaw01.StripOn'. -/
def stripOnUptoCard : Claim7 := { stood := { row := stripOnUptoRow, standIns := [], harness := (true, "6948e196cc7639a386f161b8c348245fb331f6e4d581db3d6df906965ac3d89f"), looks := false }, kinds := [], alts := [], goes := true, laidByText := true, laidKinds := [.funcs], laidTests := true, laidLooks := .later }
def StripOnUptoCardSaid : Prop := Claim7.holds Tryz.pinned (.plain (OpenSpec.upto stripOnSpec)) stripOnUptoCard

/-- THE SECOND FORM's CARD OF 'velariumlaw01.StripMore'. -/
def stripMoreUptoCard : Claim7 := { stood := { row := stripMoreUptoRow, standIns := [], harness := (true, "6948e196cc7639a386f161b8c348245fb331f6e4d581db3d6df906965ac3d89f"), looks := false }, kinds := [], alts := [], goes := true, laidByText := true, laidKinds := [.funcs], laidTests := true, laidLooks := .later }
def StripMoreUptoCardSaid : Prop := Claim7.holds Tryz.pinned (.plain (OpenSpec.upto stripMoreSpec)) stripMoreUptoCard

/-- THE SECOND FORM's CARD OF 'velariumlaw01.StripNoOthers'. -/
def stripNoOthersUptoCard : Claim7 := { stood := { row := stripNoOthersUptoRow, standIns := [], harness := (true, "6948e196cc7639a386f161b8c348245fb331f6e4d581db3d6df906965ac3d89f"), looks := false }, kinds := [], alts := [], goes := true, laidByText := true, laidKinds := [.funcs], laidTests := true, laidLooks := .later }
def StripNoOthersUptoCardSaid : Prop := Claim7.holds Tryz.pinned (.plain (OpenSpec.upto stripNoOthersSpec)) stripNoOthersUptoCard

/-- THE SECOND FORM's CARD OF 'velariumlaw01.StripAsked'. -/
def stripAskedUptoCard : Claim7 := { stood := { row := stripAskedUptoRow, standIns := [], harness := (true, "6948e196cc7639a386f161b8c348245fb331f6e4d581db3d6df906965ac3d89f"), looks := false }, kinds := [], alts := [], goes := true, laidByText := true, laidKinds := [.funcs], laidTests := true, laidLooks := .later }
def StripAskedUptoCardSaid : Prop := Claim7.holds Tryz.pinned (.plain (OpenSpec.upto stripAskedSpec)) stripAskedUptoCard

/-- THE SECOND FORM's CARD OF 'velariumlaw01.StripKnown'. -/
def stripKnownUptoCard : Claim7 := { stood := { row := stripKnownUptoRow, standIns := [], harness := (true, "6948e196cc7639a386f161b8c348245fb331f6e4d581db3d6df906965ac3d89f"), looks := false }, kinds := [], alts := [], goes := true, laidByText := true, laidKinds := [.funcs], laidTests := true, laidLooks := .later }
def StripKnownUptoCardSaid : Prop := Claim7.holds Tryz.pinned (.plain (OpenSpec.upto stripKnownSpec)) stripKnownUptoCard

/-- THE SECOND FORM's CARD OF 'velariumlaw01.StripLearnt'. -/
def stripLearntUptoCard : Claim7 := { stood := { row := stripLearntUptoRow, standIns := [], harness := (true, "6948e196cc7639a386f161b8c348245fb331f6e4d581db3d6df906965ac3d89f"), looks := false }, kinds := [], alts := [], goes := true, laidByText := true, laidKinds := [.funcs], laidTests := true, laidLooks := .later }
def StripLearntUptoCardSaid : Prop := Claim7.holds Tryz.pinned (.plain (OpenSpec.upto stripLearntSpec)) stripLearntUptoCard

/-- THE SECOND FORM's CARD OF 'velariumlaw01.StripHung'. -/
def stripHungUptoCard : Claim7 := { stood := { row := stripHungUptoRow, standIns := [], harness := (true, "6948e196cc7639a386f161b8c348245fb331f6e4d581db3d6df906965ac3d89f"), looks := false }, kinds := [], alts := [], goes := true, laidByText := true, laidKinds := [.funcs], laidTests := true, laidLooks := .later }
def StripHungUptoCardSaid : Prop := Claim7.holds Tryz.pinned (.plain (OpenSpec.upto stripHungSpec)) stripHungUptoCard

/-- THE SECOND FORM's CARD OF 'velariumlaw01.StripLifted'. -/
def stripLiftedUptoCard : Claim7 := { stood := { row := stripLiftedUptoRow, standIns := [], harness := (true, "6948e196cc7639a386f161b8c348245fb331f6e4d581db3d6df906965ac3d89f"), looks := false }, kinds := [], alts := [], goes := true, laidByText := true, laidKinds := [.funcs], laidTests := true, laidLooks := .later }
def StripLiftedUptoCardSaid : Prop := Claim7.holds Tryz.pinned (.plain (OpenSpec.upto stripLiftedSpec)) stripLiftedUptoCard

/-- THE SECOND FORM's CARD OF 'velariumlaw01.StripAnyOrder'. -/
def stripAnyOrderUptoCard : Claim7 := { stood := { row := stripAnyOrderUptoRow, standIns := [], harness := (true, "6948e196cc7639a386f161b8c348245fb331f6e4d581db3d6df906965ac3d89f"), looks := false }, kinds := [], alts := [], goes := true, laidByText := true, laidKinds := [.funcs], laidTests := true, laidLooks := .later }
def StripAnyOrderUptoCardSaid : Prop := Claim7.holds Tryz.pinned (.plain (OpenSpec.upto stripAnyOrderSpec)) stripAnyOrderUptoCard

/-- THE SECOND FORM's CARD OF 'velariumlaw01.StripReal'. -/
def stripRealUptoCard : Claim7 := { stood := { row := stripRealUptoRow, standIns := [], harness := (true, "6948e196cc7639a386f161b8c348245fb331f6e4d581db3d6df906965ac3d89f"), looks := false }, kinds := [], alts := [], goes := true, laidByText := true, laidKinds := [.funcs], laidTests := true, laidLooks := .later }
def StripRealUptoCardSaid : Prop := Claim7.holds Tryz.pinned (.plain (OpenSpec.upto stripRealSpec)) stripRealUptoCard

/-- THE SECOND FORM's CARD OF 'velariumlaw01.StripCloses'. -/
def stripClosesUptoCard : Claim7 := { stood := { row := stripClosesUptoRow, standIns := [], harness := (true, "6948e196cc7639a386f161b8c348245fb331f6e4d581db3d6df906965ac3d89f"), looks := false }, kinds := [], alts := [], goes := true, laidByText := true, laidKinds := [.funcs], laidTests := true, laidLooks := .later }
def StripClosesUptoCardSaid : Prop := Claim7.holds Tryz.pinned (.plain (OpenSpec.upto stripClosesSpec)) stripClosesUptoCard

/-- THE SECOND FORM's CARD OF 'velariumlaw01.StripWorst'. -/
def stripWorstUptoCard : Claim7 := { stood := { row := stripWorstUptoRow, standIns := [], harness := (true, "6948e196cc7639a386f161b8c348245fb331f6e4d581db3d6df906965ac3d89f"), looks := false }, kinds := [], alts := [], goes := true, laidByText := true, laidKinds := [.funcs], laidTests := true, laidLooks := .later }
def StripWorstUptoCardSaid : Prop := Claim7.holds Tryz.pinned (.plain (OpenSpec.upto stripWorstSpec)) stripWorstUptoCard

/-- THE SECOND FORM's CARD OF 'velariumlaw01.StripNews'. -/
def stripNewsUptoCard : Claim7 := { stood := { row := stripNewsUptoRow, standIns := [], harness := (true, "6948e196cc7639a386f161b8c348245fb331f6e4d581db3d6df906965ac3d89f"), looks := false }, kinds := [], alts := [], goes := true, laidByText := true, laidKinds := [.funcs], laidTests := true, laidLooks := .later }
def StripNewsUptoCardSaid : Prop := Claim7.holds Tryz.pinned (.plain (OpenSpec.upto stripNewsSpec)) stripNewsUptoCard
end Rows
end Go.Proofs.YtlchekhkopimhaaGreatDoor
