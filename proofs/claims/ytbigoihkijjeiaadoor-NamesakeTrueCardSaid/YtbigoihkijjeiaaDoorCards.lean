/-
  DERIVED. GIVEN WITH THE SEED: THE CARDS: each row of YtbigoihkijjeiaaDoorRows.lean that lists a variable, with what it lists TIED to the program's text (the seventh form; the later family's looks); each row that meets fmt, with fmt's text TOLD by the authors' own Lean function (tested against real Go, not proved from fmt's source: count such statements apart). THE CARD IS WHAT COUNTS. Prove the row's statement (the work); the ties are given (YtbigoihkijjeiaaDoorTie.lean); close each card by the builder's one call (the guide's Derived/Test/ToyasCard.lean, 'card_holds'). Laid BY PROGRAM, IN A SANDBOX (cutbox-door.mjs). By AI agents, Wed Nov 11 2026. No macro, syntax, notation, axiom, sorry.
-/
import Derived.Test.YtbigoihkijjeiaaDoorRows
import GoSem.ClaimSeven
namespace Go.Proofs.YtbigoihkijjeiaaDoor
namespace Rows

/-- THE TIED CARD OF 'wishbooklaw08.NamesakeOnes'. -/
def namesakeOnesCard : Claim7 := { stood := { row := namesakeOnesRow, standIns := [], harness := (true, "04804f3628b06ae4647b3c1d1d172d7d112a4af6591ca46ea95ba00bf908074f"), looks := false }, kinds := [], alts := [], laidByText := true, laidKinds := [.funcs], laidTests := true, laidLooks := .later }
def NamesakeOnesCardSaid : Prop := Claim7.holds Tryd.pinned (.plain (OpenSpec.ofChange namesakeOnesSpec)) namesakeOnesCard

/-- THE TIED CARD OF 'wishbooklaw08.NamesakeFews'. -/
def namesakeFewsCard : Claim7 := { stood := { row := namesakeFewsRow, standIns := [], harness := (true, "04804f3628b06ae4647b3c1d1d172d7d112a4af6591ca46ea95ba00bf908074f"), looks := false }, kinds := [], alts := [], laidByText := true, laidKinds := [.funcs], laidTests := true, laidLooks := .later }
def NamesakeFewsCardSaid : Prop := Claim7.holds Tryd.pinned (.plain (OpenSpec.ofChange namesakeFewsSpec)) namesakeFewsCard

/-- THE TIED CARD OF 'wishbooklaw08.NamesakeSames'. -/
def namesakeSamesCard : Claim7 := { stood := { row := namesakeSamesRow, standIns := [], harness := (true, "04804f3628b06ae4647b3c1d1d172d7d112a4af6591ca46ea95ba00bf908074f"), looks := false }, kinds := [], alts := [], laidByText := true, laidKinds := [.funcs], laidTests := true, laidLooks := .later }
def NamesakeSamesCardSaid : Prop := Claim7.holds Tryd.pinned (.plain (OpenSpec.ofChange namesakeSamesSpec)) namesakeSamesCard

/-- THE TIED CARD OF 'wishbooklaw08.NamesakeTrue'. -/
def namesakeTrueCard : Claim7 := { stood := { row := namesakeTrueRow, standIns := [], harness := (true, "04804f3628b06ae4647b3c1d1d172d7d112a4af6591ca46ea95ba00bf908074f"), looks := false }, kinds := [], alts := [], laidByText := true, laidKinds := [.funcs], laidTests := true, laidLooks := .later }
def NamesakeTrueCardSaid : Prop := Claim7.holds Tryd.pinned (.plain (OpenSpec.ofChange namesakeTrueSpec)) namesakeTrueCard

/-- THE TIED CARD OF 'wishbooklaw08.NamesakeJoined'. -/
def namesakeJoinedCard : Claim7 := { stood := { row := namesakeJoinedRow, standIns := [], harness := (true, "04804f3628b06ae4647b3c1d1d172d7d112a4af6591ca46ea95ba00bf908074f"), looks := false }, kinds := [], alts := [], laidByText := true, laidKinds := [.funcs], laidTests := true, laidLooks := .later }
def NamesakeJoinedCardSaid : Prop := Claim7.holds Tryd.pinned (.plain (OpenSpec.ofChange namesakeJoinedSpec)) namesakeJoinedCard

/-- THE TIED CARD OF 'wishbooklaw08.NamesakeAsk'. -/
def namesakeAskCard : Claim7 := { stood := { row := namesakeAskRow, standIns := [], harness := (true, "04804f3628b06ae4647b3c1d1d172d7d112a4af6591ca46ea95ba00bf908074f"), looks := false }, kinds := [], alts := [], laidByText := true, laidKinds := [.funcs], laidTests := true, laidLooks := .later }
def NamesakeAskCardSaid : Prop := Claim7.holds Tryd.pinned (.plain (OpenSpec.ofChange namesakeAskSpec)) namesakeAskCard

/-- THE TIED CARD OF 'wishbooklaw08.NamesakeMore'. -/
def namesakeMoreCard : Claim7 := { stood := { row := namesakeMoreRow, standIns := [], harness := (true, "04804f3628b06ae4647b3c1d1d172d7d112a4af6591ca46ea95ba00bf908074f"), looks := false }, kinds := [], alts := [], laidByText := true, laidKinds := [.funcs], laidTests := true, laidLooks := .later }
def NamesakeMoreCardSaid : Prop := Claim7.holds Tryd.pinned (.plain (OpenSpec.ofChange namesakeMoreSpec)) namesakeMoreCard

/-- THE TIED CARD OF 'wishbooklaw08.NamesakeEasier'. -/
def namesakeEasierCard : Claim7 := { stood := { row := namesakeEasierRow, standIns := [], harness := (true, "04804f3628b06ae4647b3c1d1d172d7d112a4af6591ca46ea95ba00bf908074f"), looks := false }, kinds := [], alts := [], laidByText := true, laidKinds := [.funcs], laidTests := true, laidLooks := .later }
def NamesakeEasierCardSaid : Prop := Claim7.holds Tryd.pinned (.plain (OpenSpec.ofChange namesakeEasierSpec)) namesakeEasierCard

/-- THE TIED CARD OF 'wishbooklaw08.NamesakeFirst'. -/
def namesakeFirstCard : Claim7 := { stood := { row := namesakeFirstRow, standIns := [], harness := (true, "04804f3628b06ae4647b3c1d1d172d7d112a4af6591ca46ea95ba00bf908074f"), looks := false }, kinds := [], alts := [], laidByText := true, laidKinds := [.funcs], laidTests := true, laidLooks := .later }
def NamesakeFirstCardSaid : Prop := Claim7.holds Tryd.pinned (.plain (OpenSpec.ofChange namesakeFirstSpec)) namesakeFirstCard

/-- THE TIED CARD OF 'wishbooklaw08.NamesakeTorn'. -/
def namesakeTornCard : Claim7 := { stood := { row := namesakeTornRow, standIns := [], harness := (true, "04804f3628b06ae4647b3c1d1d172d7d112a4af6591ca46ea95ba00bf908074f"), looks := false }, kinds := [], alts := [], laidByText := true, laidKinds := [.funcs], laidTests := true, laidLooks := .later }
def NamesakeTornCardSaid : Prop := Claim7.holds Tryd.pinned (.plain (OpenSpec.ofChange namesakeTornSpec)) namesakeTornCard

/-- THE TIED CARD OF 'wishbooklaw08.NamesakeKnown'. -/
def namesakeKnownCard : Claim7 := { stood := { row := namesakeKnownRow, standIns := [], harness := (true, "04804f3628b06ae4647b3c1d1d172d7d112a4af6591ca46ea95ba00bf908074f"), looks := false }, kinds := [], alts := [], laidByText := true, laidKinds := [.funcs], laidTests := true, laidLooks := .later }
def NamesakeKnownCardSaid : Prop := Claim7.holds Tryd.pinned (.plain (OpenSpec.ofChange namesakeKnownSpec)) namesakeKnownCard

/-- THE SECOND FORM's CARD OF 'wishbooklaw08.NamesakeOnes'. -/
def namesakeOnesUptoCard : Claim7 := { stood := { row := namesakeOnesUptoRow, standIns := [], harness := (true, "04804f3628b06ae4647b3c1d1d172d7d112a4af6591ca46ea95ba00bf908074f"), looks := false }, kinds := [], alts := [], laidByText := true, laidKinds := [.funcs], laidTests := true, laidLooks := .later }
def NamesakeOnesUptoCardSaid : Prop := Claim7.holds Tryd.pinned (.plain (OpenSpec.upto namesakeOnesSpec)) namesakeOnesUptoCard

/-- THE SECOND FORM's CARD OF 'wishbooklaw08.NamesakeFews'. -/
def namesakeFewsUptoCard : Claim7 := { stood := { row := namesakeFewsUptoRow, standIns := [], harness := (true, "04804f3628b06ae4647b3c1d1d172d7d112a4af6591ca46ea95ba00bf908074f"), looks := false }, kinds := [], alts := [], laidByText := true, laidKinds := [.funcs], laidTests := true, laidLooks := .later }
def NamesakeFewsUptoCardSaid : Prop := Claim7.holds Tryd.pinned (.plain (OpenSpec.upto namesakeFewsSpec)) namesakeFewsUptoCard

/-- THE SECOND FORM's CARD OF 'wishbooklaw08.NamesakeSames'. -/
def namesakeSamesUptoCard : Claim7 := { stood := { row := namesakeSamesUptoRow, standIns := [], harness := (true, "04804f3628b06ae4647b3c1d1d172d7d112a4af6591ca46ea95ba00bf908074f"), looks := false }, kinds := [], alts := [], laidByText := true, laidKinds := [.funcs], laidTests := true, laidLooks := .later }
def NamesakeSamesUptoCardSaid : Prop := Claim7.holds Tryd.pinned (.plain (OpenSpec.upto namesakeSamesSpec)) namesakeSamesUptoCard

/-- THE SECOND FORM's CARD OF 'wishbooklaw08.NamesakeTrue'. -/
def namesakeTrueUptoCard : Claim7 := { stood := { row := namesakeTrueUptoRow, standIns := [], harness := (true, "04804f3628b06ae4647b3c1d1d172d7d112a4af6591ca46ea95ba00bf908074f"), looks := false }, kinds := [], alts := [], laidByText := true, laidKinds := [.funcs], laidTests := true, laidLooks := .later }
def NamesakeTrueUptoCardSaid : Prop := Claim7.holds Tryd.pinned (.plain (OpenSpec.upto namesakeTrueSpec)) namesakeTrueUptoCard

/-- THE SECOND FORM's CARD OF 'wishbooklaw08.NamesakeJoined'. -/
def namesakeJoinedUptoCard : Claim7 := { stood := { row := namesakeJoinedUptoRow, standIns := [], harness := (true, "04804f3628b06ae4647b3c1d1d172d7d112a4af6591ca46ea95ba00bf908074f"), looks := false }, kinds := [], alts := [], laidByText := true, laidKinds := [.funcs], laidTests := true, laidLooks := .later }
def NamesakeJoinedUptoCardSaid : Prop := Claim7.holds Tryd.pinned (.plain (OpenSpec.upto namesakeJoinedSpec)) namesakeJoinedUptoCard

/-- THE SECOND FORM's CARD OF 'wishbooklaw08.NamesakeAsk'. -/
def namesakeAskUptoCard : Claim7 := { stood := { row := namesakeAskUptoRow, standIns := [], harness := (true, "04804f3628b06ae4647b3c1d1d172d7d112a4af6591ca46ea95ba00bf908074f"), looks := false }, kinds := [], alts := [], laidByText := true, laidKinds := [.funcs], laidTests := true, laidLooks := .later }
def NamesakeAskUptoCardSaid : Prop := Claim7.holds Tryd.pinned (.plain (OpenSpec.upto namesakeAskSpec)) namesakeAskUptoCard

/-- THE SECOND FORM's CARD OF 'wishbooklaw08.NamesakeMore'. -/
def namesakeMoreUptoCard : Claim7 := { stood := { row := namesakeMoreUptoRow, standIns := [], harness := (true, "04804f3628b06ae4647b3c1d1d172d7d112a4af6591ca46ea95ba00bf908074f"), looks := false }, kinds := [], alts := [], laidByText := true, laidKinds := [.funcs], laidTests := true, laidLooks := .later }
def NamesakeMoreUptoCardSaid : Prop := Claim7.holds Tryd.pinned (.plain (OpenSpec.upto namesakeMoreSpec)) namesakeMoreUptoCard

/-- THE SECOND FORM's CARD OF 'wishbooklaw08.NamesakeEasier'. -/
def namesakeEasierUptoCard : Claim7 := { stood := { row := namesakeEasierUptoRow, standIns := [], harness := (true, "04804f3628b06ae4647b3c1d1d172d7d112a4af6591ca46ea95ba00bf908074f"), looks := false }, kinds := [], alts := [], laidByText := true, laidKinds := [.funcs], laidTests := true, laidLooks := .later }
def NamesakeEasierUptoCardSaid : Prop := Claim7.holds Tryd.pinned (.plain (OpenSpec.upto namesakeEasierSpec)) namesakeEasierUptoCard

/-- THE SECOND FORM's CARD OF 'wishbooklaw08.NamesakeFirst'. -/
def namesakeFirstUptoCard : Claim7 := { stood := { row := namesakeFirstUptoRow, standIns := [], harness := (true, "04804f3628b06ae4647b3c1d1d172d7d112a4af6591ca46ea95ba00bf908074f"), looks := false }, kinds := [], alts := [], laidByText := true, laidKinds := [.funcs], laidTests := true, laidLooks := .later }
def NamesakeFirstUptoCardSaid : Prop := Claim7.holds Tryd.pinned (.plain (OpenSpec.upto namesakeFirstSpec)) namesakeFirstUptoCard

/-- THE SECOND FORM's CARD OF 'wishbooklaw08.NamesakeTorn'. -/
def namesakeTornUptoCard : Claim7 := { stood := { row := namesakeTornUptoRow, standIns := [], harness := (true, "04804f3628b06ae4647b3c1d1d172d7d112a4af6591ca46ea95ba00bf908074f"), looks := false }, kinds := [], alts := [], laidByText := true, laidKinds := [.funcs], laidTests := true, laidLooks := .later }
def NamesakeTornUptoCardSaid : Prop := Claim7.holds Tryd.pinned (.plain (OpenSpec.upto namesakeTornSpec)) namesakeTornUptoCard

/-- THE SECOND FORM's CARD OF 'wishbooklaw08.NamesakeKnown'. -/
def namesakeKnownUptoCard : Claim7 := { stood := { row := namesakeKnownUptoRow, standIns := [], harness := (true, "04804f3628b06ae4647b3c1d1d172d7d112a4af6591ca46ea95ba00bf908074f"), looks := false }, kinds := [], alts := [], laidByText := true, laidKinds := [.funcs], laidTests := true, laidLooks := .later }
def NamesakeKnownUptoCardSaid : Prop := Claim7.holds Tryd.pinned (.plain (OpenSpec.upto namesakeKnownSpec)) namesakeKnownUptoCard
end Rows
end Go.Proofs.YtbigoihkijjeiaaDoor
