/-
  DERIVED. GIVEN WITH THE SEED: THE CARDS: each row of YtfoohlabifhplaaDoorRows.lean that lists a variable, with what it lists TIED to the program's text (the seventh form; the later family's looks); each row that meets fmt, with fmt's text TOLD by the authors' own Lean function (tested against real Go, not proved from fmt's source: count such statements apart). THE CARD IS WHAT COUNTS. Prove the row's statement (the work); the ties are given (YtfoohlabifhplaaDoorTie.lean); close each card by the builder's one call (the guide's Derived/Test/ToyasCard.lean, 'card_holds'). Laid BY PROGRAM, IN A SANDBOX (cutbox-door.mjs). By AI agents, Wed Nov 11 2026. No macro, syntax, notation, axiom, sorry.
-/
import Derived.Test.YtfoohlabifhplaaDoorRows
import GoSem.ClaimSeven
namespace Go.Proofs.YtfoohlabifhplaaDoor
namespace Rows

/-- THE TIED CARD OF 'wishbooklaw04.ShelfWas'. -/
def shelfWasCard : Claim7 := { stood := { row := shelfWasRow, standIns := [], harness := (true, "c941622246c92d4dc2cc0e9b85f63524aece4bd608dc5890e5be099a61cf9518"), looks := false }, kinds := [], alts := [], laidByText := true, laidKinds := [.funcs], laidTests := true, laidLooks := .later }
def ShelfWasCardSaid : Prop := Claim7.holds Tryd.pinned (.plain (OpenSpec.ofChange shelfWasSpec)) shelfWasCard

/-- THE TIED CARD OF 'wishbooklaw04.ShelfDues'. -/
def shelfDuesCard : Claim7 := { stood := { row := shelfDuesRow, standIns := [], harness := (true, "c941622246c92d4dc2cc0e9b85f63524aece4bd608dc5890e5be099a61cf9518"), looks := false }, kinds := [], alts := [], laidByText := true, laidKinds := [.funcs], laidTests := true, laidLooks := .later }
def ShelfDuesCardSaid : Prop := Claim7.holds Tryd.pinned (.plain (OpenSpec.ofChange shelfDuesSpec)) shelfDuesCard

/-- THE TIED CARD OF 'wishbooklaw04.ShelfPasts'. -/
def shelfPastsCard : Claim7 := { stood := { row := shelfPastsRow, standIns := [], harness := (true, "c941622246c92d4dc2cc0e9b85f63524aece4bd608dc5890e5be099a61cf9518"), looks := false }, kinds := [], alts := [], laidByText := true, laidKinds := [.funcs], laidTests := true, laidLooks := .later }
def ShelfPastsCardSaid : Prop := Claim7.holds Tryd.pinned (.plain (OpenSpec.ofChange shelfPastsSpec)) shelfPastsCard

/-- THE TIED CARD OF 'wishbooklaw04.ShelfWrongs'. -/
def shelfWrongsCard : Claim7 := { stood := { row := shelfWrongsRow, standIns := [], harness := (true, "c941622246c92d4dc2cc0e9b85f63524aece4bd608dc5890e5be099a61cf9518"), looks := false }, kinds := [], alts := [], laidByText := true, laidKinds := [.funcs], laidTests := true, laidLooks := .later }
def ShelfWrongsCardSaid : Prop := Claim7.holds Tryd.pinned (.plain (OpenSpec.ofChange shelfWrongsSpec)) shelfWrongsCard

/-- THE TIED CARD OF 'wishbooklaw04.ShelfTrue'. -/
def shelfTrueCard : Claim7 := { stood := { row := shelfTrueRow, standIns := [], harness := (true, "c941622246c92d4dc2cc0e9b85f63524aece4bd608dc5890e5be099a61cf9518"), looks := false }, kinds := [], alts := [], laidByText := true, laidKinds := [.funcs], laidTests := true, laidLooks := .later }
def ShelfTrueCardSaid : Prop := Claim7.holds Tryd.pinned (.plain (OpenSpec.ofChange shelfTrueSpec)) shelfTrueCard

/-- THE TIED CARD OF 'wishbooklaw04.ShelfEnds'. -/
def shelfEndsCard : Claim7 := { stood := { row := shelfEndsRow, standIns := [], harness := (true, "c941622246c92d4dc2cc0e9b85f63524aece4bd608dc5890e5be099a61cf9518"), looks := false }, kinds := [], alts := [], laidByText := true, laidKinds := [.funcs], laidTests := true, laidLooks := .later }
def ShelfEndsCardSaid : Prop := Claim7.holds Tryd.pinned (.plain (OpenSpec.ofChange shelfEndsSpec)) shelfEndsCard

/-- THE TIED CARD OF 'wishbooklaw04.ShelfPast'. -/
def shelfPastCard : Claim7 := { stood := { row := shelfPastRow, standIns := [], harness := (true, "c941622246c92d4dc2cc0e9b85f63524aece4bd608dc5890e5be099a61cf9518"), looks := false }, kinds := [], alts := [], laidByText := true, laidKinds := [.funcs], laidTests := true, laidLooks := .later }
def ShelfPastCardSaid : Prop := Claim7.holds Tryd.pinned (.plain (OpenSpec.ofChange shelfPastSpec)) shelfPastCard

/-- THE TIED CARD OF 'wishbooklaw04.ShelfMore'. -/
def shelfMoreCard : Claim7 := { stood := { row := shelfMoreRow, standIns := [], harness := (true, "c941622246c92d4dc2cc0e9b85f63524aece4bd608dc5890e5be099a61cf9518"), looks := false }, kinds := [], alts := [], laidByText := true, laidKinds := [.funcs], laidTests := true, laidLooks := .later }
def ShelfMoreCardSaid : Prop := Claim7.holds Tryd.pinned (.plain (OpenSpec.ofChange shelfMoreSpec)) shelfMoreCard

/-- THE TIED CARD OF 'wishbooklaw04.ShelfWider'. -/
def shelfWiderCard : Claim7 := { stood := { row := shelfWiderRow, standIns := [], harness := (true, "c941622246c92d4dc2cc0e9b85f63524aece4bd608dc5890e5be099a61cf9518"), looks := false }, kinds := [], alts := [], laidByText := true, laidKinds := [.funcs], laidTests := true, laidLooks := .later }
def ShelfWiderCardSaid : Prop := Claim7.holds Tryd.pinned (.plain (OpenSpec.ofChange shelfWiderSpec)) shelfWiderCard

/-- THE TIED CARD OF 'wishbooklaw04.ShelfLeft'. -/
def shelfLeftCard : Claim7 := { stood := { row := shelfLeftRow, standIns := [], harness := (true, "c941622246c92d4dc2cc0e9b85f63524aece4bd608dc5890e5be099a61cf9518"), looks := false }, kinds := [], alts := [], laidByText := true, laidKinds := [.funcs], laidTests := true, laidLooks := .later }
def ShelfLeftCardSaid : Prop := Claim7.holds Tryd.pinned (.plain (OpenSpec.ofChange shelfLeftSpec)) shelfLeftCard

/-- THE TIED CARD OF 'wishbooklaw04.ShelfSure'. -/
def shelfSureCard : Claim7 := { stood := { row := shelfSureRow, standIns := [], harness := (true, "c941622246c92d4dc2cc0e9b85f63524aece4bd608dc5890e5be099a61cf9518"), looks := false }, kinds := [], alts := [], laidByText := true, laidKinds := [.funcs], laidTests := true, laidLooks := .later }
def ShelfSureCardSaid : Prop := Claim7.holds Tryd.pinned (.plain (OpenSpec.ofChange shelfSureSpec)) shelfSureCard

/-- THE TIED CARD OF 'wishbooklaw04.ShelfIdle'. -/
def shelfIdleCard : Claim7 := { stood := { row := shelfIdleRow, standIns := [], harness := (true, "c941622246c92d4dc2cc0e9b85f63524aece4bd608dc5890e5be099a61cf9518"), looks := false }, kinds := [], alts := [], laidByText := true, laidKinds := [.funcs], laidTests := true, laidLooks := .later }
def ShelfIdleCardSaid : Prop := Claim7.holds Tryd.pinned (.plain (OpenSpec.ofChange shelfIdleSpec)) shelfIdleCard

/-- THE TIED CARD OF 'wishbooklaw04.ShelfKnown'. -/
def shelfKnownCard : Claim7 := { stood := { row := shelfKnownRow, standIns := [], harness := (true, "c941622246c92d4dc2cc0e9b85f63524aece4bd608dc5890e5be099a61cf9518"), looks := false }, kinds := [], alts := [], laidByText := true, laidKinds := [.funcs], laidTests := true, laidLooks := .later }
def ShelfKnownCardSaid : Prop := Claim7.holds Tryd.pinned (.plain (OpenSpec.ofChange shelfKnownSpec)) shelfKnownCard

/-- THE SECOND FORM's CARD OF 'wishbooklaw04.ShelfWas'. -/
def shelfWasUptoCard : Claim7 := { stood := { row := shelfWasUptoRow, standIns := [], harness := (true, "c941622246c92d4dc2cc0e9b85f63524aece4bd608dc5890e5be099a61cf9518"), looks := false }, kinds := [], alts := [], laidByText := true, laidKinds := [.funcs], laidTests := true, laidLooks := .later }
def ShelfWasUptoCardSaid : Prop := Claim7.holds Tryd.pinned (.plain (OpenSpec.upto shelfWasSpec)) shelfWasUptoCard

/-- THE SECOND FORM's CARD OF 'wishbooklaw04.ShelfDues'. -/
def shelfDuesUptoCard : Claim7 := { stood := { row := shelfDuesUptoRow, standIns := [], harness := (true, "c941622246c92d4dc2cc0e9b85f63524aece4bd608dc5890e5be099a61cf9518"), looks := false }, kinds := [], alts := [], laidByText := true, laidKinds := [.funcs], laidTests := true, laidLooks := .later }
def ShelfDuesUptoCardSaid : Prop := Claim7.holds Tryd.pinned (.plain (OpenSpec.upto shelfDuesSpec)) shelfDuesUptoCard

/-- THE SECOND FORM's CARD OF 'wishbooklaw04.ShelfPasts'. -/
def shelfPastsUptoCard : Claim7 := { stood := { row := shelfPastsUptoRow, standIns := [], harness := (true, "c941622246c92d4dc2cc0e9b85f63524aece4bd608dc5890e5be099a61cf9518"), looks := false }, kinds := [], alts := [], laidByText := true, laidKinds := [.funcs], laidTests := true, laidLooks := .later }
def ShelfPastsUptoCardSaid : Prop := Claim7.holds Tryd.pinned (.plain (OpenSpec.upto shelfPastsSpec)) shelfPastsUptoCard

/-- THE SECOND FORM's CARD OF 'wishbooklaw04.ShelfWrongs'. -/
def shelfWrongsUptoCard : Claim7 := { stood := { row := shelfWrongsUptoRow, standIns := [], harness := (true, "c941622246c92d4dc2cc0e9b85f63524aece4bd608dc5890e5be099a61cf9518"), looks := false }, kinds := [], alts := [], laidByText := true, laidKinds := [.funcs], laidTests := true, laidLooks := .later }
def ShelfWrongsUptoCardSaid : Prop := Claim7.holds Tryd.pinned (.plain (OpenSpec.upto shelfWrongsSpec)) shelfWrongsUptoCard

/-- THE SECOND FORM's CARD OF 'wishbooklaw04.ShelfTrue'. -/
def shelfTrueUptoCard : Claim7 := { stood := { row := shelfTrueUptoRow, standIns := [], harness := (true, "c941622246c92d4dc2cc0e9b85f63524aece4bd608dc5890e5be099a61cf9518"), looks := false }, kinds := [], alts := [], laidByText := true, laidKinds := [.funcs], laidTests := true, laidLooks := .later }
def ShelfTrueUptoCardSaid : Prop := Claim7.holds Tryd.pinned (.plain (OpenSpec.upto shelfTrueSpec)) shelfTrueUptoCard

/-- THE SECOND FORM's CARD OF 'wishbooklaw04.ShelfEnds'. -/
def shelfEndsUptoCard : Claim7 := { stood := { row := shelfEndsUptoRow, standIns := [], harness := (true, "c941622246c92d4dc2cc0e9b85f63524aece4bd608dc5890e5be099a61cf9518"), looks := false }, kinds := [], alts := [], laidByText := true, laidKinds := [.funcs], laidTests := true, laidLooks := .later }
def ShelfEndsUptoCardSaid : Prop := Claim7.holds Tryd.pinned (.plain (OpenSpec.upto shelfEndsSpec)) shelfEndsUptoCard

/-- THE SECOND FORM's CARD OF 'wishbooklaw04.ShelfPast'. -/
def shelfPastUptoCard : Claim7 := { stood := { row := shelfPastUptoRow, standIns := [], harness := (true, "c941622246c92d4dc2cc0e9b85f63524aece4bd608dc5890e5be099a61cf9518"), looks := false }, kinds := [], alts := [], laidByText := true, laidKinds := [.funcs], laidTests := true, laidLooks := .later }
def ShelfPastUptoCardSaid : Prop := Claim7.holds Tryd.pinned (.plain (OpenSpec.upto shelfPastSpec)) shelfPastUptoCard

/-- THE SECOND FORM's CARD OF 'wishbooklaw04.ShelfMore'. -/
def shelfMoreUptoCard : Claim7 := { stood := { row := shelfMoreUptoRow, standIns := [], harness := (true, "c941622246c92d4dc2cc0e9b85f63524aece4bd608dc5890e5be099a61cf9518"), looks := false }, kinds := [], alts := [], laidByText := true, laidKinds := [.funcs], laidTests := true, laidLooks := .later }
def ShelfMoreUptoCardSaid : Prop := Claim7.holds Tryd.pinned (.plain (OpenSpec.upto shelfMoreSpec)) shelfMoreUptoCard

/-- THE SECOND FORM's CARD OF 'wishbooklaw04.ShelfWider'. -/
def shelfWiderUptoCard : Claim7 := { stood := { row := shelfWiderUptoRow, standIns := [], harness := (true, "c941622246c92d4dc2cc0e9b85f63524aece4bd608dc5890e5be099a61cf9518"), looks := false }, kinds := [], alts := [], laidByText := true, laidKinds := [.funcs], laidTests := true, laidLooks := .later }
def ShelfWiderUptoCardSaid : Prop := Claim7.holds Tryd.pinned (.plain (OpenSpec.upto shelfWiderSpec)) shelfWiderUptoCard

/-- THE SECOND FORM's CARD OF 'wishbooklaw04.ShelfLeft'. -/
def shelfLeftUptoCard : Claim7 := { stood := { row := shelfLeftUptoRow, standIns := [], harness := (true, "c941622246c92d4dc2cc0e9b85f63524aece4bd608dc5890e5be099a61cf9518"), looks := false }, kinds := [], alts := [], laidByText := true, laidKinds := [.funcs], laidTests := true, laidLooks := .later }
def ShelfLeftUptoCardSaid : Prop := Claim7.holds Tryd.pinned (.plain (OpenSpec.upto shelfLeftSpec)) shelfLeftUptoCard

/-- THE SECOND FORM's CARD OF 'wishbooklaw04.ShelfSure'. -/
def shelfSureUptoCard : Claim7 := { stood := { row := shelfSureUptoRow, standIns := [], harness := (true, "c941622246c92d4dc2cc0e9b85f63524aece4bd608dc5890e5be099a61cf9518"), looks := false }, kinds := [], alts := [], laidByText := true, laidKinds := [.funcs], laidTests := true, laidLooks := .later }
def ShelfSureUptoCardSaid : Prop := Claim7.holds Tryd.pinned (.plain (OpenSpec.upto shelfSureSpec)) shelfSureUptoCard

/-- THE SECOND FORM's CARD OF 'wishbooklaw04.ShelfIdle'. -/
def shelfIdleUptoCard : Claim7 := { stood := { row := shelfIdleUptoRow, standIns := [], harness := (true, "c941622246c92d4dc2cc0e9b85f63524aece4bd608dc5890e5be099a61cf9518"), looks := false }, kinds := [], alts := [], laidByText := true, laidKinds := [.funcs], laidTests := true, laidLooks := .later }
def ShelfIdleUptoCardSaid : Prop := Claim7.holds Tryd.pinned (.plain (OpenSpec.upto shelfIdleSpec)) shelfIdleUptoCard

/-- THE SECOND FORM's CARD OF 'wishbooklaw04.ShelfKnown'. -/
def shelfKnownUptoCard : Claim7 := { stood := { row := shelfKnownUptoRow, standIns := [], harness := (true, "c941622246c92d4dc2cc0e9b85f63524aece4bd608dc5890e5be099a61cf9518"), looks := false }, kinds := [], alts := [], laidByText := true, laidKinds := [.funcs], laidTests := true, laidLooks := .later }
def ShelfKnownUptoCardSaid : Prop := Claim7.holds Tryd.pinned (.plain (OpenSpec.upto shelfKnownSpec)) shelfKnownUptoCard
end Rows
end Go.Proofs.YtfoohlabifhplaaDoor
