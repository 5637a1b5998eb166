/-
  DERIVED. GIVEN WITH THE SEED: THE CARDS: each row of YtobbgcagbnhecaaDoorRows.lean that lists a variable, with what it lists TIED to the program's text (the seventh form; the later family's looks); each row that meets fmt, with fmt's text TOLD by the authors' own Lean function (tested against real Go, not proved from fmt's source: count such statements apart). THE CARD IS WHAT COUNTS. Prove the row's statement (the work); the ties are given (YtobbgcagbnhecaaDoorTie.lean); close each card by the builder's one call (the guide's Derived/Test/ToyasCard.lean, 'card_holds'). Laid BY PROGRAM, IN A SANDBOX (cutbox-door.mjs). By AI agents, Wed Nov 11 2026. No macro, syntax, notation, axiom, sorry.
-/
import Derived.Test.YtobbgcagbnhecaaDoorRows
import GoSem.ClaimSeven
namespace Go.Proofs.YtobbgcagbnhecaaDoor
namespace Rows

/-- THE TIED CARD OF 'wishbooklaw03.SlipTours'. -/
def slipToursCard : Claim7 := { stood := { row := slipToursRow, standIns := [], harness := (true, "5e191c45efa802c39b804d52e49832627bdc6d93a749aa6aa74b0dbf45f86016"), looks := false }, kinds := [], alts := [], laidByText := true, laidKinds := [.funcs], laidTests := true, laidLooks := .later }
def SlipToursCardSaid : Prop := Claim7.holds Tryd.pinned (.plain (OpenSpec.ofChange slipToursSpec)) slipToursCard

/-- THE TIED CARD OF 'wishbooklaw03.SlipRosters'. -/
def slipRostersCard : Claim7 := { stood := { row := slipRostersRow, standIns := [], harness := (true, "5e191c45efa802c39b804d52e49832627bdc6d93a749aa6aa74b0dbf45f86016"), looks := false }, kinds := [], alts := [], laidByText := true, laidKinds := [.funcs], laidTests := true, laidLooks := .later }
def SlipRostersCardSaid : Prop := Claim7.holds Tryd.pinned (.plain (OpenSpec.ofChange slipRostersSpec)) slipRostersCard

/-- THE TIED CARD OF 'wishbooklaw03.SlipLates'. -/
def slipLatesCard : Claim7 := { stood := { row := slipLatesRow, standIns := [], harness := (true, "5e191c45efa802c39b804d52e49832627bdc6d93a749aa6aa74b0dbf45f86016"), looks := false }, kinds := [], alts := [], laidByText := true, laidKinds := [.funcs], laidTests := true, laidLooks := .later }
def SlipLatesCardSaid : Prop := Claim7.holds Tryd.pinned (.plain (OpenSpec.ofChange slipLatesSpec)) slipLatesCard

/-- THE TIED CARD OF 'wishbooklaw03.SlipFetched'. -/
def slipFetchedCard : Claim7 := { stood := { row := slipFetchedRow, standIns := [], harness := (true, "5e191c45efa802c39b804d52e49832627bdc6d93a749aa6aa74b0dbf45f86016"), looks := false }, kinds := [], alts := [], laidByText := true, laidKinds := [.funcs], laidTests := true, laidLooks := .later }
def SlipFetchedCardSaid : Prop := Claim7.holds Tryd.pinned (.plain (OpenSpec.ofChange slipFetchedSpec)) slipFetchedCard

/-- THE TIED CARD OF 'wishbooklaw03.SlipTrue'. -/
def slipTrueCard : Claim7 := { stood := { row := slipTrueRow, standIns := [], harness := (true, "5e191c45efa802c39b804d52e49832627bdc6d93a749aa6aa74b0dbf45f86016"), looks := false }, kinds := [], alts := [], laidByText := true, laidKinds := [.funcs], laidTests := true, laidLooks := .later }
def SlipTrueCardSaid : Prop := Claim7.holds Tryd.pinned (.plain (OpenSpec.ofChange slipTrueSpec)) slipTrueCard

/-- THE TIED CARD OF 'wishbooklaw03.SlipGiven'. -/
def slipGivenCard : Claim7 := { stood := { row := slipGivenRow, standIns := [], harness := (true, "5e191c45efa802c39b804d52e49832627bdc6d93a749aa6aa74b0dbf45f86016"), looks := false }, kinds := [], alts := [], laidByText := true, laidKinds := [.funcs], laidTests := true, laidLooks := .later }
def SlipGivenCardSaid : Prop := Claim7.holds Tryd.pinned (.plain (OpenSpec.ofChange slipGivenSpec)) slipGivenCard

/-- THE TIED CARD OF 'wishbooklaw03.SlipEnds'. -/
def slipEndsCard : Claim7 := { stood := { row := slipEndsRow, standIns := [], harness := (true, "5e191c45efa802c39b804d52e49832627bdc6d93a749aa6aa74b0dbf45f86016"), looks := false }, kinds := [], alts := [], laidByText := true, laidKinds := [.funcs], laidTests := true, laidLooks := .later }
def SlipEndsCardSaid : Prop := Claim7.holds Tryd.pinned (.plain (OpenSpec.ofChange slipEndsSpec)) slipEndsCard

/-- THE TIED CARD OF 'wishbooklaw03.SlipLate'. -/
def slipLateCard : Claim7 := { stood := { row := slipLateRow, standIns := [], harness := (true, "5e191c45efa802c39b804d52e49832627bdc6d93a749aa6aa74b0dbf45f86016"), looks := false }, kinds := [], alts := [], laidByText := true, laidKinds := [.funcs], laidTests := true, laidLooks := .later }
def SlipLateCardSaid : Prop := Claim7.holds Tryd.pinned (.plain (OpenSpec.ofChange slipLateSpec)) slipLateCard

/-- THE TIED CARD OF 'wishbooklaw03.SlipSpared'. -/
def slipSparedCard : Claim7 := { stood := { row := slipSparedRow, standIns := [], harness := (true, "5e191c45efa802c39b804d52e49832627bdc6d93a749aa6aa74b0dbf45f86016"), looks := false }, kinds := [], alts := [], laidByText := true, laidKinds := [.funcs], laidTests := true, laidLooks := .later }
def SlipSparedCardSaid : Prop := Claim7.holds Tryd.pinned (.plain (OpenSpec.ofChange slipSparedSpec)) slipSparedCard

/-- THE TIED CARD OF 'wishbooklaw03.SlipEasier'. -/
def slipEasierCard : Claim7 := { stood := { row := slipEasierRow, standIns := [], harness := (true, "5e191c45efa802c39b804d52e49832627bdc6d93a749aa6aa74b0dbf45f86016"), looks := false }, kinds := [], alts := [], laidByText := true, laidKinds := [.funcs], laidTests := true, laidLooks := .later }
def SlipEasierCardSaid : Prop := Claim7.holds Tryd.pinned (.plain (OpenSpec.ofChange slipEasierSpec)) slipEasierCard

/-- THE TIED CARD OF 'wishbooklaw03.SlipKnown'. -/
def slipKnownCard : Claim7 := { stood := { row := slipKnownRow, standIns := [], harness := (true, "5e191c45efa802c39b804d52e49832627bdc6d93a749aa6aa74b0dbf45f86016"), looks := false }, kinds := [], alts := [], laidByText := true, laidKinds := [.funcs], laidTests := true, laidLooks := .later }
def SlipKnownCardSaid : Prop := Claim7.holds Tryd.pinned (.plain (OpenSpec.ofChange slipKnownSpec)) slipKnownCard

/-- THE SECOND FORM's CARD OF 'wishbooklaw03.SlipTours'. -/
def slipToursUptoCard : Claim7 := { stood := { row := slipToursUptoRow, standIns := [], harness := (true, "5e191c45efa802c39b804d52e49832627bdc6d93a749aa6aa74b0dbf45f86016"), looks := false }, kinds := [], alts := [], laidByText := true, laidKinds := [.funcs], laidTests := true, laidLooks := .later }
def SlipToursUptoCardSaid : Prop := Claim7.holds Tryd.pinned (.plain (OpenSpec.upto slipToursSpec)) slipToursUptoCard

/-- THE SECOND FORM's CARD OF 'wishbooklaw03.SlipRosters'. -/
def slipRostersUptoCard : Claim7 := { stood := { row := slipRostersUptoRow, standIns := [], harness := (true, "5e191c45efa802c39b804d52e49832627bdc6d93a749aa6aa74b0dbf45f86016"), looks := false }, kinds := [], alts := [], laidByText := true, laidKinds := [.funcs], laidTests := true, laidLooks := .later }
def SlipRostersUptoCardSaid : Prop := Claim7.holds Tryd.pinned (.plain (OpenSpec.upto slipRostersSpec)) slipRostersUptoCard

/-- THE SECOND FORM's CARD OF 'wishbooklaw03.SlipLates'. -/
def slipLatesUptoCard : Claim7 := { stood := { row := slipLatesUptoRow, standIns := [], harness := (true, "5e191c45efa802c39b804d52e49832627bdc6d93a749aa6aa74b0dbf45f86016"), looks := false }, kinds := [], alts := [], laidByText := true, laidKinds := [.funcs], laidTests := true, laidLooks := .later }
def SlipLatesUptoCardSaid : Prop := Claim7.holds Tryd.pinned (.plain (OpenSpec.upto slipLatesSpec)) slipLatesUptoCard

/-- THE SECOND FORM's CARD OF 'wishbooklaw03.SlipFetched'. -/
def slipFetchedUptoCard : Claim7 := { stood := { row := slipFetchedUptoRow, standIns := [], harness := (true, "5e191c45efa802c39b804d52e49832627bdc6d93a749aa6aa74b0dbf45f86016"), looks := false }, kinds := [], alts := [], laidByText := true, laidKinds := [.funcs], laidTests := true, laidLooks := .later }
def SlipFetchedUptoCardSaid : Prop := Claim7.holds Tryd.pinned (.plain (OpenSpec.upto slipFetchedSpec)) slipFetchedUptoCard

/-- THE SECOND FORM's CARD OF 'wishbooklaw03.SlipTrue'. -/
def slipTrueUptoCard : Claim7 := { stood := { row := slipTrueUptoRow, standIns := [], harness := (true, "5e191c45efa802c39b804d52e49832627bdc6d93a749aa6aa74b0dbf45f86016"), looks := false }, kinds := [], alts := [], laidByText := true, laidKinds := [.funcs], laidTests := true, laidLooks := .later }
def SlipTrueUptoCardSaid : Prop := Claim7.holds Tryd.pinned (.plain (OpenSpec.upto slipTrueSpec)) slipTrueUptoCard

/-- THE SECOND FORM's CARD OF 'wishbooklaw03.SlipGiven'. -/
def slipGivenUptoCard : Claim7 := { stood := { row := slipGivenUptoRow, standIns := [], harness := (true, "5e191c45efa802c39b804d52e49832627bdc6d93a749aa6aa74b0dbf45f86016"), looks := false }, kinds := [], alts := [], laidByText := true, laidKinds := [.funcs], laidTests := true, laidLooks := .later }
def SlipGivenUptoCardSaid : Prop := Claim7.holds Tryd.pinned (.plain (OpenSpec.upto slipGivenSpec)) slipGivenUptoCard

/-- THE SECOND FORM's CARD OF 'wishbooklaw03.SlipEnds'. -/
def slipEndsUptoCard : Claim7 := { stood := { row := slipEndsUptoRow, standIns := [], harness := (true, "5e191c45efa802c39b804d52e49832627bdc6d93a749aa6aa74b0dbf45f86016"), looks := false }, kinds := [], alts := [], laidByText := true, laidKinds := [.funcs], laidTests := true, laidLooks := .later }
def SlipEndsUptoCardSaid : Prop := Claim7.holds Tryd.pinned (.plain (OpenSpec.upto slipEndsSpec)) slipEndsUptoCard

/-- THE SECOND FORM's CARD OF 'wishbooklaw03.SlipLate'. -/
def slipLateUptoCard : Claim7 := { stood := { row := slipLateUptoRow, standIns := [], harness := (true, "5e191c45efa802c39b804d52e49832627bdc6d93a749aa6aa74b0dbf45f86016"), looks := false }, kinds := [], alts := [], laidByText := true, laidKinds := [.funcs], laidTests := true, laidLooks := .later }
def SlipLateUptoCardSaid : Prop := Claim7.holds Tryd.pinned (.plain (OpenSpec.upto slipLateSpec)) slipLateUptoCard

/-- THE SECOND FORM's CARD OF 'wishbooklaw03.SlipSpared'. -/
def slipSparedUptoCard : Claim7 := { stood := { row := slipSparedUptoRow, standIns := [], harness := (true, "5e191c45efa802c39b804d52e49832627bdc6d93a749aa6aa74b0dbf45f86016"), looks := false }, kinds := [], alts := [], laidByText := true, laidKinds := [.funcs], laidTests := true, laidLooks := .later }
def SlipSparedUptoCardSaid : Prop := Claim7.holds Tryd.pinned (.plain (OpenSpec.upto slipSparedSpec)) slipSparedUptoCard

/-- THE SECOND FORM's CARD OF 'wishbooklaw03.SlipEasier'. -/
def slipEasierUptoCard : Claim7 := { stood := { row := slipEasierUptoRow, standIns := [], harness := (true, "5e191c45efa802c39b804d52e49832627bdc6d93a749aa6aa74b0dbf45f86016"), looks := false }, kinds := [], alts := [], laidByText := true, laidKinds := [.funcs], laidTests := true, laidLooks := .later }
def SlipEasierUptoCardSaid : Prop := Claim7.holds Tryd.pinned (.plain (OpenSpec.upto slipEasierSpec)) slipEasierUptoCard

/-- THE SECOND FORM's CARD OF 'wishbooklaw03.SlipKnown'. -/
def slipKnownUptoCard : Claim7 := { stood := { row := slipKnownUptoRow, standIns := [], harness := (true, "5e191c45efa802c39b804d52e49832627bdc6d93a749aa6aa74b0dbf45f86016"), looks := false }, kinds := [], alts := [], laidByText := true, laidKinds := [.funcs], laidTests := true, laidLooks := .later }
def SlipKnownUptoCardSaid : Prop := Claim7.holds Tryd.pinned (.plain (OpenSpec.upto slipKnownSpec)) slipKnownUptoCard
end Rows
end Go.Proofs.YtobbgcagbnhecaaDoor
