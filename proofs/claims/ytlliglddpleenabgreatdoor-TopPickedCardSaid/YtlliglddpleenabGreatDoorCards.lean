/-
  DERIVED. GIVEN WITH THE SEED: THE CARDS: each row of YtlliglddpleenabGreatDoorRows.lean that lists a variable, with what it lists TIED to the program's text (the seventh form; the later family's looks); each row that meets fmt, with fmt's text TOLD by the authors' own Lean function (tested against real Go, not proved from fmt's source: count such statements apart). THE CARD IS WHAT COUNTS. Prove the row's statement (the work); the ties are given (YtlliglddpleenabGreatDoorTie.lean); close each card by the builder's one call (the guide's Derived/Test/ToyasCard.lean, 'card_holds'). Laid BY PROGRAM, IN A SANDBOX (cutbox-door.mjs). By AI agents, Wed Nov 11 2026. No macro, syntax, notation, axiom, sorry.
-/
import Derived.Test.YtlliglddpleenabGreatDoorRows
import GoSem.ClaimSeven
namespace Go.Proofs.YtlliglddpleenabGreatDoor
namespace Rows

/-- THE TIED CARD OF 'wishbooktop.TopPicked'. -/
def topPickedCard : Claim7 := { stood := { row := topPickedRow, standIns := [], harness := (true, "5accac7cc268db4996db062dfe71a0a97979b0550b3f7ba4ba2b1fe79430e2fa"), looks := false }, kinds := [], alts := [], laidByText := true, laidKinds := [.funcs, .funcs], laidTests := true, laidLooks := .later }
def TopPickedCardSaid : Prop := Claim7.holds Tryz.pinned (.plain (OpenSpec.ofChange topPickedSpec)) topPickedCard

/-- THE TIED CARD OF 'wishbooktop.TopBoxed'. -/
def topBoxedCard : Claim7 := { stood := { row := topBoxedRow, standIns := [], harness := (true, "5accac7cc268db4996db062dfe71a0a97979b0550b3f7ba4ba2b1fe79430e2fa"), looks := false }, kinds := [], alts := [], laidByText := true, laidKinds := [.funcs, .funcs, .funcs, .funcs], laidTests := true, laidLooks := .later }
def TopBoxedCardSaid : Prop := Claim7.holds Tryz.pinned (.plain (OpenSpec.ofChange topBoxedSpec)) topBoxedCard

/-- THE TIED CARD OF 'wishbooktop.TopMeant'. -/
def topMeantCard : Claim7 := { stood := { row := topMeantRow, standIns := [], harness := (true, "5accac7cc268db4996db062dfe71a0a97979b0550b3f7ba4ba2b1fe79430e2fa"), looks := false }, kinds := [], alts := [], laidByText := true, laidKinds := [.funcs, .funcs, .funcs], laidTests := true, laidLooks := .later }
def TopMeantCardSaid : Prop := Claim7.holds Tryz.pinned (.plain (OpenSpec.ofChange topMeantSpec)) topMeantCard

/-- THE SECOND FORM's CARD OF 'wishbooktop.TopPicked'. -/
def topPickedUptoCard : Claim7 := { stood := { row := topPickedUptoRow, standIns := [], harness := (true, "5accac7cc268db4996db062dfe71a0a97979b0550b3f7ba4ba2b1fe79430e2fa"), looks := false }, kinds := [], alts := [], laidByText := true, laidKinds := [.funcs, .funcs], laidTests := true, laidLooks := .later }
def TopPickedUptoCardSaid : Prop := Claim7.holds Tryz.pinned (.plain (OpenSpec.upto topPickedSpec)) topPickedUptoCard

/-- THE SECOND FORM's CARD OF 'wishbooktop.TopBoxed'. -/
def topBoxedUptoCard : Claim7 := { stood := { row := topBoxedUptoRow, standIns := [], harness := (true, "5accac7cc268db4996db062dfe71a0a97979b0550b3f7ba4ba2b1fe79430e2fa"), looks := false }, kinds := [], alts := [], laidByText := true, laidKinds := [.funcs, .funcs, .funcs, .funcs], laidTests := true, laidLooks := .later }
def TopBoxedUptoCardSaid : Prop := Claim7.holds Tryz.pinned (.plain (OpenSpec.upto topBoxedSpec)) topBoxedUptoCard

/-- THE SECOND FORM's CARD OF 'wishbooktop.TopMeant'. -/
def topMeantUptoCard : Claim7 := { stood := { row := topMeantUptoRow, standIns := [], harness := (true, "5accac7cc268db4996db062dfe71a0a97979b0550b3f7ba4ba2b1fe79430e2fa"), looks := false }, kinds := [], alts := [], laidByText := true, laidKinds := [.funcs, .funcs, .funcs], laidTests := true, laidLooks := .later }
def TopMeantUptoCardSaid : Prop := Claim7.holds Tryz.pinned (.plain (OpenSpec.upto topMeantSpec)) topMeantUptoCard
end Rows
end Go.Proofs.YtlliglddpleenabGreatDoor
