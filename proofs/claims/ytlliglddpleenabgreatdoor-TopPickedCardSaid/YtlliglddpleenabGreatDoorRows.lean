/-
  NARROWER THAN 'FOR EVERY INPUT', by the rows' own cells (each row's printed sentence says how): TopPicked: laid · TopBoxed: laid · TopMeant: laid.
  DERIVED. THE GIVEN ROWS OF THIS SEAT. 3 by the template 'for every input the law returns true; each argument reads behind the call as it read before'; 0 by the template 'total and deterministic' (their statements: YtlliglddpleenabGreatDoorTotals.lean).
  GIVEN WITH THE SEED: the statements are not yours to turn. If you find one false, say at which input.
  Laid BY PROGRAM, IN A SANDBOX (cutbox-rows.mjs): the forced cells as the released guide's own fill.sh prints them over the translation 60704dff89c375d1… (all of the seat's roots in one cut). By AI agents, Wed Nov 11 2026. No macro, syntax, notation, axiom, sorry.
-/
import Derived.Test.YtlliglddpleenabGreatDoorChecked
import GoSem.Claim
import GoSem.ClaimJoined
import GoSem.ClaimMapViews
import Derived.JoinedTies
import Derived.KernelRfl
namespace Go.Proofs.YtlliglddpleenabGreatDoor
/- THE CELL 'sum', in the pinned program and in every row, IS THE sha256 OF THE DUMP (.gsa) THAT YtlliglddpleenabGreatDoorProg.lean LOADS. Nothing in Lean hashes anything: it is a label: what it is worth is what the hold of that sum in a sandbox is worth. -/
noncomputable def Tryz.pinned : Pinned := { name := "ytlliglddpleenabgreatdoor", sum := "60704dff89c375d17e988571da10e2b8ac7f156fd898ad57b1069b2a4b9c3b03", checked := Tryz.checked }
namespace Rows
def none {H : Type} : Left H := { results := [], args := [] }

/- WHAT THE LISTED PACKAGE-LEVEL VARIABLES READ AS WHEN THE CALL BEGINS. Each datum BY PROGRAM (the guide's laid-datum.mjs) off the statement by which the dump's own 'gosem.cut.vars' lays the variable. In a bare row this is a premise. The card (YtlliglddpleenabGreatDoorCards.lean) ties it to the program's text. -/
def laid_wishbook_book_kinds {H : Type} : DataW H := .iface "func table" (.agg [.iface "func" (.lit (.string [40, 119, 105, 115, 104, 98, 111, 111, 107, 47, 98, 111, 111, 107, 46, 114, 97, 99, 107, 41, 46, 117, 115, 101, 100])), .iface "func" (.lit (.string [40, 119, 105, 115, 104, 98, 111, 111, 107, 47, 98, 111, 111, 107, 46, 114, 97, 99, 107, 41, 46, 104, 101, 108, 100]))])
def laid_wishbook_shelf_steps {H : Type} : DataW H := .iface "func table" (.agg [.iface "func" (.lit (.string [40, 119, 105, 115, 104, 98, 111, 111, 107, 47, 115, 104, 101, 108, 102, 46, 98, 111, 111, 107, 41, 46, 108, 101, 115, 115])), .iface "func" (.lit (.string [40, 119, 105, 115, 104, 98, 111, 111, 107, 47, 115, 104, 101, 108, 102, 46, 98, 111, 111, 107, 41, 46, 109, 111, 114, 101]))])
def laid_wishbook_parcel_parts {H : Type} : DataW H := .iface "func table" (.agg [.iface "func" (.lit (.string [40, 119, 105, 115, 104, 98, 111, 111, 107, 47, 112, 97, 114, 99, 101, 108, 46, 98, 111, 111, 107, 41, 46, 112, 114, 105, 99, 101])), .iface "func" (.lit (.string [40, 119, 105, 115, 104, 98, 111, 111, 107, 47, 112, 97, 114, 99, 101, 108, 46, 98, 111, 111, 107, 41, 46, 115, 116, 101, 112, 115])), .iface "func" (.lit (.string [40, 119, 105, 115, 104, 98, 111, 111, 107, 47, 112, 97, 114, 99, 101, 108, 46, 98, 111, 111, 107, 41, 46, 105, 110, 115, 117, 114, 97, 110, 99, 101]))])
def laid_wishbook_slip_ends {H : Type} : DataW H := .iface "func table" (.agg [.iface "func" (.lit (.string [40, 119, 105, 115, 104, 98, 111, 111, 107, 47, 115, 108, 105, 112, 46, 102, 108, 111, 111, 114, 41, 46, 108, 101, 97, 115, 116])), .iface "func" (.lit (.string [40, 119, 105, 115, 104, 98, 111, 111, 107, 47, 115, 108, 105, 112, 46, 102, 108, 111, 111, 114, 41, 46, 109, 111, 115, 116]))])
def laid_wishbook_chute_ways {H : Type} : DataW H := .iface "func table" (.agg [.iface "func" (.lit (.string [40, 119, 105, 115, 104, 98, 111, 111, 107, 47, 99, 104, 117, 116, 101, 46, 104, 111, 117, 115, 101, 41, 46, 115, 117, 114, 101, 108, 121])), .iface "func" (.lit (.string [40, 119, 105, 115, 104, 98, 111, 111, 107, 47, 99, 104, 117, 116, 101, 46, 104, 111, 117, 115, 101, 41, 46, 112, 101, 114, 104, 97, 112, 115]))])
def laid_wishbook_letter_fields {H : Type} : DataW H := .iface "func table" (.agg [.iface "func" (.lit (.string [40, 119, 105, 115, 104, 98, 111, 111, 107, 47, 108, 101, 116, 116, 101, 114, 46, 111, 114, 100, 101, 114, 41, 46, 103, 111, 111, 100])), .iface "func" (.lit (.string [40, 119, 105, 115, 104, 98, 111, 111, 107, 47, 108, 101, 116, 116, 101, 114, 46, 111, 114, 100, 101, 114, 41, 46, 115, 105, 122, 101])), .iface "func" (.lit (.string [40, 119, 105, 115, 104, 98, 111, 111, 107, 47, 108, 101, 116, 116, 101, 114, 46, 111, 114, 100, 101, 114, 41, 46, 99, 111, 108, 111, 117, 114])), .iface "func" (.lit (.string [40, 119, 105, 115, 104, 98, 111, 111, 107, 47, 108, 101, 116, 116, 101, 114, 46, 111, 114, 100, 101, 114, 41, 46, 109, 97, 110, 121]))])

/-- 'wishbooktop.TopPicked': WHATEVER THE INPUT: true; the input reads as it did. -/
def topPickedSpec : ChangeSpec := { name := "topPicked", fn := fun _ => fun
  | [d1, d2, d3] => { results := [.lit (.bool true)], args := [d1, d2, d3] }
  | _ => none }
def topPickedRow : OpenClaim := { program := "ytlliglddpleenabgreatdoor", sum := "60704dff89c375d17e988571da10e2b8ac7f156fd898ad57b1069b2a4b9c3b03", func := "wishbook/wishbooktop.TopPicked", spec := "topPicked", unfollowed := true, recurses := true, named := ["wishbook/book.kinds", "wishbook/shelf.steps"], plainKeys := false, apart := false, laid := [("wishbook/book.kinds", laid_wishbook_book_kinds), ("wishbook/shelf.steps", laid_wishbook_shelf_steps)] }
def TopPickedSaid : Prop := topPickedRow.holds Tryz.pinned (OpenSpec.ofChange topPickedSpec)

/-- ITS FALSE NEIGHBOUR: 'it returns false'. Refute it at one input. -/
def topPickedWrong : ChangeSpec := { name := "topPicked", fn := fun _ => fun
  | [d1, d2, d3] => { results := [.lit (.bool false)], args := [d1, d2, d3] }
  | _ => none }
def TopPickedWrongFalsely : Prop := topPickedRow.holds Tryz.pinned (OpenSpec.ofChange topPickedWrong)

/-- 'wishbooktop.TopBoxed': WHATEVER THE INPUT: true; the input reads as it did. -/
def topBoxedSpec : ChangeSpec := { name := "topBoxed", fn := fun _ => fun
  | [d1, d2] => { results := [.lit (.bool true)], args := [d1, d2] }
  | _ => none }
def topBoxedRow : OpenClaim := { program := "ytlliglddpleenabgreatdoor", sum := "60704dff89c375d17e988571da10e2b8ac7f156fd898ad57b1069b2a4b9c3b03", func := "wishbook/wishbooktop.TopBoxed", spec := "topBoxed", unfollowed := true, recurses := true, named := ["wishbook/slip.ends", "wishbook/parcel.parts", "wishbook/book.kinds", "wishbook/chute.ways"], plainKeys := false, apart := false, laid := [("wishbook/book.kinds", laid_wishbook_book_kinds), ("wishbook/parcel.parts", laid_wishbook_parcel_parts), ("wishbook/slip.ends", laid_wishbook_slip_ends), ("wishbook/chute.ways", laid_wishbook_chute_ways)] }
def TopBoxedSaid : Prop := topBoxedRow.holds Tryz.pinned (OpenSpec.ofChange topBoxedSpec)

/-- ITS FALSE NEIGHBOUR: 'it returns false'. Refute it at one input. -/
def topBoxedWrong : ChangeSpec := { name := "topBoxed", fn := fun _ => fun
  | [d1, d2] => { results := [.lit (.bool false)], args := [d1, d2] }
  | _ => none }
def TopBoxedWrongFalsely : Prop := topBoxedRow.holds Tryz.pinned (OpenSpec.ofChange topBoxedWrong)

/-- 'wishbooktop.TopMeant': WHATEVER THE INPUT: true; the input reads as it did. -/
def topMeantSpec : ChangeSpec := { name := "topMeant", fn := fun _ => fun
  | [d1, d2] => { results := [.lit (.bool true)], args := [d1, d2] }
  | _ => none }
def topMeantRow : OpenClaim := { program := "ytlliglddpleenabgreatdoor", sum := "60704dff89c375d17e988571da10e2b8ac7f156fd898ad57b1069b2a4b9c3b03", func := "wishbook/wishbooktop.TopMeant", spec := "topMeant", unfollowed := true, recurses := true, named := ["wishbook/book.kinds", "wishbook/letter.fields", "wishbook/slip.ends"], plainKeys := false, apart := false, laid := [("wishbook/book.kinds", laid_wishbook_book_kinds), ("wishbook/letter.fields", laid_wishbook_letter_fields), ("wishbook/slip.ends", laid_wishbook_slip_ends)] }
def TopMeantSaid : Prop := topMeantRow.holds Tryz.pinned (OpenSpec.ofChange topMeantSpec)

/-- ITS FALSE NEIGHBOUR: 'it returns false'. Refute it at one input. -/
def topMeantWrong : ChangeSpec := { name := "topMeant", fn := fun _ => fun
  | [d1, d2] => { results := [.lit (.bool false)], args := [d1, d2] }
  | _ => none }
def TopMeantWrongFalsely : Prop := topMeantRow.holds Tryz.pinned (OpenSpec.ofChange topMeantWrong)

/- THE SECOND FORM. 'bulk': how many values and letters a reading holds, each counted each time it is reached (what is shared counts as often as it is met; a slice's spare places count too). A statement '..UptoSaid' is the law's where the arguments, and the package variables that the reading takes, are together of bulk at most 1048576: NARROWER than '..Said'. Prove '..Said' where nothing that the law and all that it calls make is longer than what came in: it says more and counts as full. Else prove '..UptoSaid'. A law counts once. -/
mutual
def uptoBulk {H : Type} : DataW H → Nat
  | .lit (.string bytes) => bytes.length + 1
  | .lit _ => 1
  | .nil => 1
  | .ptr d => uptoBulk d + 1
  | .slice elems spare => uptoBulkAll elems + uptoBulkAll spare + 1
  | .agg parts => uptoBulkAll parts + 1
  | .iface _ d => uptoBulk d + 1
  | .map entries => uptoBulkEntries entries + 1
  | .held _ => 1
def uptoBulkAll {H : Type} : List (DataW H) → Nat
  | [] => 0
  | d :: r => uptoBulk d + uptoBulkAll r
def uptoBulkEntries {H : Type} : List (Lit × DataW H) → Nat
  | [] => 0
  | x :: r => uptoBulkEntry x + uptoBulkEntries r
def uptoBulkEntry {H : Type} : Lit × DataW H → Nat
  | (.string bytes, d) => bytes.length + uptoBulk d + 1
  | (_, d) => uptoBulk d + 1
 end
def uptoSmall : (H : Type) → List (DataW H) → Bool := fun _ ds => decide (uptoBulkAll ds ≤ 1048576)
def OpenSpec.upto (s : _root_.Go.ChangeSpec) : _root_.Go.OpenSpec := { _root_.Go.OpenSpec.ofChange s with cond := some uptoSmall }

/-- 'wishbooktop.TopPicked', WHERE WHAT IT READS IS OF BULK AT MOST 1048576: true; the input reads as it did. -/
def topPickedUptoRow : OpenClaim := { program := "ytlliglddpleenabgreatdoor", sum := "60704dff89c375d17e988571da10e2b8ac7f156fd898ad57b1069b2a4b9c3b03", func := "wishbook/wishbooktop.TopPicked", spec := "topPicked", unfollowed := true, recurses := true, named := ["wishbook/book.kinds", "wishbook/shelf.steps"], plainKeys := false, apart := false, laid := [("wishbook/book.kinds", laid_wishbook_book_kinds), ("wishbook/shelf.steps", laid_wishbook_shelf_steps)], narrowed := true }
def TopPickedUptoSaid : Prop := topPickedUptoRow.holds Tryz.pinned (OpenSpec.upto topPickedSpec)

/-- 'wishbooktop.TopBoxed', WHERE WHAT IT READS IS OF BULK AT MOST 1048576: true; the input reads as it did. -/
def topBoxedUptoRow : OpenClaim := { program := "ytlliglddpleenabgreatdoor", sum := "60704dff89c375d17e988571da10e2b8ac7f156fd898ad57b1069b2a4b9c3b03", func := "wishbook/wishbooktop.TopBoxed", spec := "topBoxed", unfollowed := true, recurses := true, named := ["wishbook/slip.ends", "wishbook/parcel.parts", "wishbook/book.kinds", "wishbook/chute.ways"], plainKeys := false, apart := false, laid := [("wishbook/book.kinds", laid_wishbook_book_kinds), ("wishbook/parcel.parts", laid_wishbook_parcel_parts), ("wishbook/slip.ends", laid_wishbook_slip_ends), ("wishbook/chute.ways", laid_wishbook_chute_ways)], narrowed := true }
def TopBoxedUptoSaid : Prop := topBoxedUptoRow.holds Tryz.pinned (OpenSpec.upto topBoxedSpec)

/-- 'wishbooktop.TopMeant', WHERE WHAT IT READS IS OF BULK AT MOST 1048576: true; the input reads as it did. -/
def topMeantUptoRow : OpenClaim := { program := "ytlliglddpleenabgreatdoor", sum := "60704dff89c375d17e988571da10e2b8ac7f156fd898ad57b1069b2a4b9c3b03", func := "wishbook/wishbooktop.TopMeant", spec := "topMeant", unfollowed := true, recurses := true, named := ["wishbook/book.kinds", "wishbook/letter.fields", "wishbook/slip.ends"], plainKeys := false, apart := false, laid := [("wishbook/book.kinds", laid_wishbook_book_kinds), ("wishbook/letter.fields", laid_wishbook_letter_fields), ("wishbook/slip.ends", laid_wishbook_slip_ends)], narrowed := true }
def TopMeantUptoSaid : Prop := topMeantUptoRow.holds Tryz.pinned (OpenSpec.upto topMeantSpec)

end Rows
end Go.Proofs.YtlliglddpleenabGreatDoor
