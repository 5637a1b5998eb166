/-
  NARROWER THAN 'FOR EVERY INPUT', by the rows' own cells (each row's printed sentence says how): NamesakeOnes: laid · NamesakeFews: laid · NamesakeSames: laid · NamesakeTrue: laid · NamesakeJoined: laid · NamesakeAsk: laid · NamesakeMore: laid · NamesakeEasier: laid · NamesakeFirst: laid · NamesakeTorn: laid · NamesakeKnown: laid.
  DERIVED. THE GIVEN ROWS OF THIS SEAT. 11 by the template 'for every input the law returns true; each argument reads behind the call as it read before'; 0 by the template 'total and deterministic' (their statements: YtbigoihkijjeiaaDoorTotals.lean).
  GIVEN WITH THE SEED: the statements are not yours to turn. If you find one false, say at which input.
  Laid BY PROGRAM, IN A SANDBOX (cutbox-rows.mjs): the forced cells as the released guide's own fill.sh prints them over the translation df587a63601ddcab… (all of the seat's roots in one cut). By AI agents, Wed Nov 11 2026. No macro, syntax, notation, axiom, sorry.
-/
import Derived.Test.YtbigoihkijjeiaaDoorChecked
import GoSem.Claim
import GoSem.ClaimJoined
import GoSem.ClaimMapViews
import Derived.JoinedTies
import Derived.KernelRfl
namespace Go.Proofs.YtbigoihkijjeiaaDoor
/- THE CELL 'sum', in the pinned program and in every row, IS THE sha256 OF THE DUMP (.gsa) THAT YtbigoihkijjeiaaDoorProg.lean LOADS. Nothing in Lean hashes anything: it is a label: what it is worth is what the hold of that sum in a sandbox is worth. -/
noncomputable def Tryd.pinned : Pinned := { name := "ytbigoihkijjeiaadoor", sum := "df587a63601ddcab3c3f6cef29754cab382cdff202f05318f869b6406fa2244b", checked := Tryd.checked }
namespace Rows
def none {H : Type} : Left H := { results := [], args := [] }

/- WHAT THE LISTED PACKAGE-LEVEL VARIABLES READ AS WHEN THE CALL BEGINS. Each datum BY PROGRAM (the guide's laid-datum.mjs) off the statement by which the dump's own 'gosem.cut.vars' lays the variable. In a bare row this is a premise. The card (YtbigoihkijjeiaaDoorCards.lean) ties it to the program's text. -/
def laid_wishbook_namesake_grounds {H : Type} : DataW H := .iface "func table" (.agg [.iface "func" (.lit (.string [40, 119, 105, 115, 104, 98, 111, 111, 107, 47, 110, 97, 109, 101, 115, 97, 107, 101, 46, 98, 111, 111, 107, 41, 46, 98, 111, 114, 110])), .iface "func" (.lit (.string [40, 119, 105, 115, 104, 98, 111, 111, 107, 47, 110, 97, 109, 101, 115, 97, 107, 101, 46, 98, 111, 111, 107, 41, 46, 119, 97, 121])), .iface "func" (.lit (.string [40, 119, 105, 115, 104, 98, 111, 111, 107, 47, 110, 97, 109, 101, 115, 97, 107, 101, 46, 98, 111, 111, 107, 41, 46, 100, 101, 97, 116, 104])), .iface "func" (.lit (.string [40, 119, 105, 115, 104, 98, 111, 111, 107, 47, 110, 97, 109, 101, 115, 97, 107, 101, 46, 98, 111, 111, 107, 41, 46, 112, 97, 105, 114, 115]))])

/-- 'wishbooklaw08.NamesakeOnes': WHATEVER THE INPUT: true; the input reads as it did. -/
def namesakeOnesSpec : ChangeSpec := { name := "namesakeOnes", fn := fun _ => fun
  | [d1, d2, d3] => { results := [.lit (.bool true)], args := [d1, d2, d3] }
  | _ => none }
def namesakeOnesRow : OpenClaim := { program := "ytbigoihkijjeiaadoor", sum := "df587a63601ddcab3c3f6cef29754cab382cdff202f05318f869b6406fa2244b", func := "wishbook/wishbooklaw08.NamesakeOnes", spec := "namesakeOnes", unfollowed := true, recurses := true, named := ["wishbook/namesake.grounds"], plainKeys := false, apart := false, laid := [("wishbook/namesake.grounds", laid_wishbook_namesake_grounds)] }
def NamesakeOnesSaid : Prop := namesakeOnesRow.holds Tryd.pinned (OpenSpec.ofChange namesakeOnesSpec)

/-- ITS FALSE NEIGHBOUR: 'it returns false'. Refute it at one input. -/
def namesakeOnesWrong : ChangeSpec := { name := "namesakeOnes", fn := fun _ => fun
  | [d1, d2, d3] => { results := [.lit (.bool false)], args := [d1, d2, d3] }
  | _ => none }
def NamesakeOnesWrongFalsely : Prop := namesakeOnesRow.holds Tryd.pinned (OpenSpec.ofChange namesakeOnesWrong)

/-- 'wishbooklaw08.NamesakeFews': WHATEVER THE INPUT: true; the input reads as it did. -/
def namesakeFewsSpec : ChangeSpec := { name := "namesakeFews", fn := fun _ => fun
  | [d] => { results := [.lit (.bool true)], args := [d] }
  | _ => none }
def namesakeFewsRow : OpenClaim := { program := "ytbigoihkijjeiaadoor", sum := "df587a63601ddcab3c3f6cef29754cab382cdff202f05318f869b6406fa2244b", func := "wishbook/wishbooklaw08.NamesakeFews", spec := "namesakeFews", unfollowed := true, recurses := true, named := ["wishbook/namesake.grounds"], plainKeys := false, apart := false, laid := [("wishbook/namesake.grounds", laid_wishbook_namesake_grounds)] }
def NamesakeFewsSaid : Prop := namesakeFewsRow.holds Tryd.pinned (OpenSpec.ofChange namesakeFewsSpec)

/-- ITS FALSE NEIGHBOUR: 'it returns false'. Refute it at one input. -/
def namesakeFewsWrong : ChangeSpec := { name := "namesakeFews", fn := fun _ => fun
  | [d] => { results := [.lit (.bool false)], args := [d] }
  | _ => none }
def NamesakeFewsWrongFalsely : Prop := namesakeFewsRow.holds Tryd.pinned (OpenSpec.ofChange namesakeFewsWrong)

/-- 'wishbooklaw08.NamesakeSames': WHATEVER THE INPUT: true; the input reads as it did. -/
def namesakeSamesSpec : ChangeSpec := { name := "namesakeSames", fn := fun _ => fun
  | [d1, d2, d3] => { results := [.lit (.bool true)], args := [d1, d2, d3] }
  | _ => none }
def namesakeSamesRow : OpenClaim := { program := "ytbigoihkijjeiaadoor", sum := "df587a63601ddcab3c3f6cef29754cab382cdff202f05318f869b6406fa2244b", func := "wishbook/wishbooklaw08.NamesakeSames", spec := "namesakeSames", unfollowed := true, recurses := true, named := ["wishbook/namesake.grounds"], plainKeys := false, apart := false, laid := [("wishbook/namesake.grounds", laid_wishbook_namesake_grounds)] }
def NamesakeSamesSaid : Prop := namesakeSamesRow.holds Tryd.pinned (OpenSpec.ofChange namesakeSamesSpec)

/-- ITS FALSE NEIGHBOUR: 'it returns false'. Refute it at one input. -/
def namesakeSamesWrong : ChangeSpec := { name := "namesakeSames", fn := fun _ => fun
  | [d1, d2, d3] => { results := [.lit (.bool false)], args := [d1, d2, d3] }
  | _ => none }
def NamesakeSamesWrongFalsely : Prop := namesakeSamesRow.holds Tryd.pinned (OpenSpec.ofChange namesakeSamesWrong)

/-- 'wishbooklaw08.NamesakeTrue': WHATEVER THE INPUT: true; the input reads as it did. -/
def namesakeTrueSpec : ChangeSpec := { name := "namesakeTrue", fn := fun _ => fun
  | [d1, d2] => { results := [.lit (.bool true)], args := [d1, d2] }
  | _ => none }
def namesakeTrueRow : OpenClaim := { program := "ytbigoihkijjeiaadoor", sum := "df587a63601ddcab3c3f6cef29754cab382cdff202f05318f869b6406fa2244b", func := "wishbook/wishbooklaw08.NamesakeTrue", spec := "namesakeTrue", unfollowed := true, recurses := true, named := ["wishbook/namesake.grounds"], plainKeys := false, apart := false, laid := [("wishbook/namesake.grounds", laid_wishbook_namesake_grounds)] }
def NamesakeTrueSaid : Prop := namesakeTrueRow.holds Tryd.pinned (OpenSpec.ofChange namesakeTrueSpec)

/-- ITS FALSE NEIGHBOUR: 'it returns false'. Refute it at one input. -/
def namesakeTrueWrong : ChangeSpec := { name := "namesakeTrue", fn := fun _ => fun
  | [d1, d2] => { results := [.lit (.bool false)], args := [d1, d2] }
  | _ => none }
def NamesakeTrueWrongFalsely : Prop := namesakeTrueRow.holds Tryd.pinned (OpenSpec.ofChange namesakeTrueWrong)

/-- 'wishbooklaw08.NamesakeJoined': WHATEVER THE INPUT: true; the input reads as it did. -/
def namesakeJoinedSpec : ChangeSpec := { name := "namesakeJoined", fn := fun _ => fun
  | [d] => { results := [.lit (.bool true)], args := [d] }
  | _ => none }
def namesakeJoinedRow : OpenClaim := { program := "ytbigoihkijjeiaadoor", sum := "df587a63601ddcab3c3f6cef29754cab382cdff202f05318f869b6406fa2244b", func := "wishbook/wishbooklaw08.NamesakeJoined", spec := "namesakeJoined", unfollowed := true, recurses := true, named := ["wishbook/namesake.grounds"], plainKeys := false, apart := false, laid := [("wishbook/namesake.grounds", laid_wishbook_namesake_grounds)] }
def NamesakeJoinedSaid : Prop := namesakeJoinedRow.holds Tryd.pinned (OpenSpec.ofChange namesakeJoinedSpec)

/-- ITS FALSE NEIGHBOUR: 'it returns false'. Refute it at one input. -/
def namesakeJoinedWrong : ChangeSpec := { name := "namesakeJoined", fn := fun _ => fun
  | [d] => { results := [.lit (.bool false)], args := [d] }
  | _ => none }
def NamesakeJoinedWrongFalsely : Prop := namesakeJoinedRow.holds Tryd.pinned (OpenSpec.ofChange namesakeJoinedWrong)

/-- 'wishbooklaw08.NamesakeAsk': WHATEVER THE INPUT: true; the input reads as it did. -/
def namesakeAskSpec : ChangeSpec := { name := "namesakeAsk", fn := fun _ => fun
  | [d1, d2] => { results := [.lit (.bool true)], args := [d1, d2] }
  | _ => none }
def namesakeAskRow : OpenClaim := { program := "ytbigoihkijjeiaadoor", sum := "df587a63601ddcab3c3f6cef29754cab382cdff202f05318f869b6406fa2244b", func := "wishbook/wishbooklaw08.NamesakeAsk", spec := "namesakeAsk", unfollowed := true, recurses := true, named := ["wishbook/namesake.grounds"], plainKeys := false, apart := false, laid := [("wishbook/namesake.grounds", laid_wishbook_namesake_grounds)] }
def NamesakeAskSaid : Prop := namesakeAskRow.holds Tryd.pinned (OpenSpec.ofChange namesakeAskSpec)

/-- ITS FALSE NEIGHBOUR: 'it returns false'. Refute it at one input. -/
def namesakeAskWrong : ChangeSpec := { name := "namesakeAsk", fn := fun _ => fun
  | [d1, d2] => { results := [.lit (.bool false)], args := [d1, d2] }
  | _ => none }
def NamesakeAskWrongFalsely : Prop := namesakeAskRow.holds Tryd.pinned (OpenSpec.ofChange namesakeAskWrong)

/-- 'wishbooklaw08.NamesakeMore': WHATEVER THE INPUT: true; the input reads as it did. -/
def namesakeMoreSpec : ChangeSpec := { name := "namesakeMore", fn := fun _ => fun
  | [d1, d2, d3] => { results := [.lit (.bool true)], args := [d1, d2, d3] }
  | _ => none }
def namesakeMoreRow : OpenClaim := { program := "ytbigoihkijjeiaadoor", sum := "df587a63601ddcab3c3f6cef29754cab382cdff202f05318f869b6406fa2244b", func := "wishbook/wishbooklaw08.NamesakeMore", spec := "namesakeMore", unfollowed := true, recurses := true, named := ["wishbook/namesake.grounds"], plainKeys := false, apart := false, laid := [("wishbook/namesake.grounds", laid_wishbook_namesake_grounds)] }
def NamesakeMoreSaid : Prop := namesakeMoreRow.holds Tryd.pinned (OpenSpec.ofChange namesakeMoreSpec)

/-- ITS FALSE NEIGHBOUR: 'it returns false'. Refute it at one input. -/
def namesakeMoreWrong : ChangeSpec := { name := "namesakeMore", fn := fun _ => fun
  | [d1, d2, d3] => { results := [.lit (.bool false)], args := [d1, d2, d3] }
  | _ => none }
def NamesakeMoreWrongFalsely : Prop := namesakeMoreRow.holds Tryd.pinned (OpenSpec.ofChange namesakeMoreWrong)

/-- 'wishbooklaw08.NamesakeEasier': WHATEVER THE INPUT: true; the input reads as it did. -/
def namesakeEasierSpec : ChangeSpec := { name := "namesakeEasier", fn := fun _ => fun
  | [d1, d2] => { results := [.lit (.bool true)], args := [d1, d2] }
  | _ => none }
def namesakeEasierRow : OpenClaim := { program := "ytbigoihkijjeiaadoor", sum := "df587a63601ddcab3c3f6cef29754cab382cdff202f05318f869b6406fa2244b", func := "wishbook/wishbooklaw08.NamesakeEasier", spec := "namesakeEasier", unfollowed := true, recurses := true, named := ["wishbook/namesake.grounds"], plainKeys := false, apart := false, laid := [("wishbook/namesake.grounds", laid_wishbook_namesake_grounds)] }
def NamesakeEasierSaid : Prop := namesakeEasierRow.holds Tryd.pinned (OpenSpec.ofChange namesakeEasierSpec)

/-- ITS FALSE NEIGHBOUR: 'it returns false'. Refute it at one input. -/
def namesakeEasierWrong : ChangeSpec := { name := "namesakeEasier", fn := fun _ => fun
  | [d1, d2] => { results := [.lit (.bool false)], args := [d1, d2] }
  | _ => none }
def NamesakeEasierWrongFalsely : Prop := namesakeEasierRow.holds Tryd.pinned (OpenSpec.ofChange namesakeEasierWrong)

/-- 'wishbooklaw08.NamesakeFirst': WHATEVER THE INPUT: true; the input reads as it did. -/
def namesakeFirstSpec : ChangeSpec := { name := "namesakeFirst", fn := fun _ => fun
  | [d1, d2] => { results := [.lit (.bool true)], args := [d1, d2] }
  | _ => none }
def namesakeFirstRow : OpenClaim := { program := "ytbigoihkijjeiaadoor", sum := "df587a63601ddcab3c3f6cef29754cab382cdff202f05318f869b6406fa2244b", func := "wishbook/wishbooklaw08.NamesakeFirst", spec := "namesakeFirst", unfollowed := true, recurses := true, named := ["wishbook/namesake.grounds"], plainKeys := false, apart := false, laid := [("wishbook/namesake.grounds", laid_wishbook_namesake_grounds)] }
def NamesakeFirstSaid : Prop := namesakeFirstRow.holds Tryd.pinned (OpenSpec.ofChange namesakeFirstSpec)

/-- ITS FALSE NEIGHBOUR: 'it returns false'. Refute it at one input. -/
def namesakeFirstWrong : ChangeSpec := { name := "namesakeFirst", fn := fun _ => fun
  | [d1, d2] => { results := [.lit (.bool false)], args := [d1, d2] }
  | _ => none }
def NamesakeFirstWrongFalsely : Prop := namesakeFirstRow.holds Tryd.pinned (OpenSpec.ofChange namesakeFirstWrong)

/-- 'wishbooklaw08.NamesakeTorn': WHATEVER THE INPUT: true; the input reads as it did. -/
def namesakeTornSpec : ChangeSpec := { name := "namesakeTorn", fn := fun _ => fun
  | [d1, d2] => { results := [.lit (.bool true)], args := [d1, d2] }
  | _ => none }
def namesakeTornRow : OpenClaim := { program := "ytbigoihkijjeiaadoor", sum := "df587a63601ddcab3c3f6cef29754cab382cdff202f05318f869b6406fa2244b", func := "wishbook/wishbooklaw08.NamesakeTorn", spec := "namesakeTorn", unfollowed := true, recurses := true, named := ["wishbook/namesake.grounds"], plainKeys := false, apart := false, laid := [("wishbook/namesake.grounds", laid_wishbook_namesake_grounds)] }
def NamesakeTornSaid : Prop := namesakeTornRow.holds Tryd.pinned (OpenSpec.ofChange namesakeTornSpec)

/-- ITS FALSE NEIGHBOUR: 'it returns false'. Refute it at one input. -/
def namesakeTornWrong : ChangeSpec := { name := "namesakeTorn", fn := fun _ => fun
  | [d1, d2] => { results := [.lit (.bool false)], args := [d1, d2] }
  | _ => none }
def NamesakeTornWrongFalsely : Prop := namesakeTornRow.holds Tryd.pinned (OpenSpec.ofChange namesakeTornWrong)

/-- 'wishbooklaw08.NamesakeKnown': WHATEVER THE INPUT: true; the input reads as it did. -/
def namesakeKnownSpec : ChangeSpec := { name := "namesakeKnown", fn := fun _ => fun
  | [] => { results := [.lit (.bool true)], args := [] }
  | _ => none }
def namesakeKnownRow : OpenClaim := { program := "ytbigoihkijjeiaadoor", sum := "df587a63601ddcab3c3f6cef29754cab382cdff202f05318f869b6406fa2244b", func := "wishbook/wishbooklaw08.NamesakeKnown", spec := "namesakeKnown", unfollowed := true, recurses := true, named := ["wishbook/namesake.grounds"], plainKeys := false, apart := false, laid := [("wishbook/namesake.grounds", laid_wishbook_namesake_grounds)] }
def NamesakeKnownSaid : Prop := namesakeKnownRow.holds Tryd.pinned (OpenSpec.ofChange namesakeKnownSpec)

/-- ITS FALSE NEIGHBOUR: 'it returns false'. Refute it at one input. -/
def namesakeKnownWrong : ChangeSpec := { name := "namesakeKnown", fn := fun _ => fun
  | [] => { results := [.lit (.bool false)], args := [] }
  | _ => none }
def NamesakeKnownWrongFalsely : Prop := namesakeKnownRow.holds Tryd.pinned (OpenSpec.ofChange namesakeKnownWrong)

/- THE SECOND FORM. 'bulk': how many values and letters a reading holds, each counted each time it is reached (what is shared counts as often as it is met; a slice's spare places count too). A statement '..UptoSaid' is the law's where the arguments, and the package variables that the reading takes, are together of bulk at most 1048576: NARROWER than '..Said'. Prove '..Said' where nothing that the law and all that it calls make is longer than what came in: it says more and counts as full. Else prove '..UptoSaid'. A law counts once. -/
mutual
def uptoBulk {H : Type} : DataW H → Nat
  | .lit (.string bytes) => bytes.length + 1
  | .lit _ => 1
  | .nil => 1
  | .ptr d => uptoBulk d + 1
  | .slice elems spare => uptoBulkAll elems + uptoBulkAll spare + 1
  | .agg parts => uptoBulkAll parts + 1
  | .iface _ d => uptoBulk d + 1
  | .map entries => uptoBulkEntries entries + 1
  | .held _ => 1
def uptoBulkAll {H : Type} : List (DataW H) → Nat
  | [] => 0
  | d :: r => uptoBulk d + uptoBulkAll r
def uptoBulkEntries {H : Type} : List (Lit × DataW H) → Nat
  | [] => 0
  | x :: r => uptoBulkEntry x + uptoBulkEntries r
def uptoBulkEntry {H : Type} : Lit × DataW H → Nat
  | (.string bytes, d) => bytes.length + uptoBulk d + 1
  | (_, d) => uptoBulk d + 1
 end
def uptoSmall : (H : Type) → List (DataW H) → Bool := fun _ ds => decide (uptoBulkAll ds ≤ 1048576)
def OpenSpec.upto (s : _root_.Go.ChangeSpec) : _root_.Go.OpenSpec := { _root_.Go.OpenSpec.ofChange s with cond := some uptoSmall }

/-- 'wishbooklaw08.NamesakeOnes', WHERE WHAT IT READS IS OF BULK AT MOST 1048576: true; the input reads as it did. -/
def namesakeOnesUptoRow : OpenClaim := { program := "ytbigoihkijjeiaadoor", sum := "df587a63601ddcab3c3f6cef29754cab382cdff202f05318f869b6406fa2244b", func := "wishbook/wishbooklaw08.NamesakeOnes", spec := "namesakeOnes", unfollowed := true, recurses := true, named := ["wishbook/namesake.grounds"], plainKeys := false, apart := false, laid := [("wishbook/namesake.grounds", laid_wishbook_namesake_grounds)], narrowed := true }
def NamesakeOnesUptoSaid : Prop := namesakeOnesUptoRow.holds Tryd.pinned (OpenSpec.upto namesakeOnesSpec)

/-- 'wishbooklaw08.NamesakeFews', WHERE WHAT IT READS IS OF BULK AT MOST 1048576: true; the input reads as it did. -/
def namesakeFewsUptoRow : OpenClaim := { program := "ytbigoihkijjeiaadoor", sum := "df587a63601ddcab3c3f6cef29754cab382cdff202f05318f869b6406fa2244b", func := "wishbook/wishbooklaw08.NamesakeFews", spec := "namesakeFews", unfollowed := true, recurses := true, named := ["wishbook/namesake.grounds"], plainKeys := false, apart := false, laid := [("wishbook/namesake.grounds", laid_wishbook_namesake_grounds)], narrowed := true }
def NamesakeFewsUptoSaid : Prop := namesakeFewsUptoRow.holds Tryd.pinned (OpenSpec.upto namesakeFewsSpec)

/-- 'wishbooklaw08.NamesakeSames', WHERE WHAT IT READS IS OF BULK AT MOST 1048576: true; the input reads as it did. -/
def namesakeSamesUptoRow : OpenClaim := { program := "ytbigoihkijjeiaadoor", sum := "df587a63601ddcab3c3f6cef29754cab382cdff202f05318f869b6406fa2244b", func := "wishbook/wishbooklaw08.NamesakeSames", spec := "namesakeSames", unfollowed := true, recurses := true, named := ["wishbook/namesake.grounds"], plainKeys := false, apart := false, laid := [("wishbook/namesake.grounds", laid_wishbook_namesake_grounds)], narrowed := true }
def NamesakeSamesUptoSaid : Prop := namesakeSamesUptoRow.holds Tryd.pinned (OpenSpec.upto namesakeSamesSpec)

/-- 'wishbooklaw08.NamesakeTrue', WHERE WHAT IT READS IS OF BULK AT MOST 1048576: true; the input reads as it did. -/
def namesakeTrueUptoRow : OpenClaim := { program := "ytbigoihkijjeiaadoor", sum := "df587a63601ddcab3c3f6cef29754cab382cdff202f05318f869b6406fa2244b", func := "wishbook/wishbooklaw08.NamesakeTrue", spec := "namesakeTrue", unfollowed := true, recurses := true, named := ["wishbook/namesake.grounds"], plainKeys := false, apart := false, laid := [("wishbook/namesake.grounds", laid_wishbook_namesake_grounds)], narrowed := true }
def NamesakeTrueUptoSaid : Prop := namesakeTrueUptoRow.holds Tryd.pinned (OpenSpec.upto namesakeTrueSpec)

/-- 'wishbooklaw08.NamesakeJoined', WHERE WHAT IT READS IS OF BULK AT MOST 1048576: true; the input reads as it did. -/
def namesakeJoinedUptoRow : OpenClaim := { program := "ytbigoihkijjeiaadoor", sum := "df587a63601ddcab3c3f6cef29754cab382cdff202f05318f869b6406fa2244b", func := "wishbook/wishbooklaw08.NamesakeJoined", spec := "namesakeJoined", unfollowed := true, recurses := true, named := ["wishbook/namesake.grounds"], plainKeys := false, apart := false, laid := [("wishbook/namesake.grounds", laid_wishbook_namesake_grounds)], narrowed := true }
def NamesakeJoinedUptoSaid : Prop := namesakeJoinedUptoRow.holds Tryd.pinned (OpenSpec.upto namesakeJoinedSpec)

/-- 'wishbooklaw08.NamesakeAsk', WHERE WHAT IT READS IS OF BULK AT MOST 1048576: true; the input reads as it did. -/
def namesakeAskUptoRow : OpenClaim := { program := "ytbigoihkijjeiaadoor", sum := "df587a63601ddcab3c3f6cef29754cab382cdff202f05318f869b6406fa2244b", func := "wishbook/wishbooklaw08.NamesakeAsk", spec := "namesakeAsk", unfollowed := true, recurses := true, named := ["wishbook/namesake.grounds"], plainKeys := false, apart := false, laid := [("wishbook/namesake.grounds", laid_wishbook_namesake_grounds)], narrowed := true }
def NamesakeAskUptoSaid : Prop := namesakeAskUptoRow.holds Tryd.pinned (OpenSpec.upto namesakeAskSpec)

/-- 'wishbooklaw08.NamesakeMore', WHERE WHAT IT READS IS OF BULK AT MOST 1048576: true; the input reads as it did. -/
def namesakeMoreUptoRow : OpenClaim := { program := "ytbigoihkijjeiaadoor", sum := "df587a63601ddcab3c3f6cef29754cab382cdff202f05318f869b6406fa2244b", func := "wishbook/wishbooklaw08.NamesakeMore", spec := "namesakeMore", unfollowed := true, recurses := true, named := ["wishbook/namesake.grounds"], plainKeys := false, apart := false, laid := [("wishbook/namesake.grounds", laid_wishbook_namesake_grounds)], narrowed := true }
def NamesakeMoreUptoSaid : Prop := namesakeMoreUptoRow.holds Tryd.pinned (OpenSpec.upto namesakeMoreSpec)

/-- 'wishbooklaw08.NamesakeEasier', WHERE WHAT IT READS IS OF BULK AT MOST 1048576: true; the input reads as it did. -/
def namesakeEasierUptoRow : OpenClaim := { program := "ytbigoihkijjeiaadoor", sum := "df587a63601ddcab3c3f6cef29754cab382cdff202f05318f869b6406fa2244b", func := "wishbook/wishbooklaw08.NamesakeEasier", spec := "namesakeEasier", unfollowed := true, recurses := true, named := ["wishbook/namesake.grounds"], plainKeys := false, apart := false, laid := [("wishbook/namesake.grounds", laid_wishbook_namesake_grounds)], narrowed := true }
def NamesakeEasierUptoSaid : Prop := namesakeEasierUptoRow.holds Tryd.pinned (OpenSpec.upto namesakeEasierSpec)

/-- 'wishbooklaw08.NamesakeFirst', WHERE WHAT IT READS IS OF BULK AT MOST 1048576: true; the input reads as it did. -/
def namesakeFirstUptoRow : OpenClaim := { program := "ytbigoihkijjeiaadoor", sum := "df587a63601ddcab3c3f6cef29754cab382cdff202f05318f869b6406fa2244b", func := "wishbook/wishbooklaw08.NamesakeFirst", spec := "namesakeFirst", unfollowed := true, recurses := true, named := ["wishbook/namesake.grounds"], plainKeys := false, apart := false, laid := [("wishbook/namesake.grounds", laid_wishbook_namesake_grounds)], narrowed := true }
def NamesakeFirstUptoSaid : Prop := namesakeFirstUptoRow.holds Tryd.pinned (OpenSpec.upto namesakeFirstSpec)

/-- 'wishbooklaw08.NamesakeTorn', WHERE WHAT IT READS IS OF BULK AT MOST 1048576: true; the input reads as it did. -/
def namesakeTornUptoRow : OpenClaim := { program := "ytbigoihkijjeiaadoor", sum := "df587a63601ddcab3c3f6cef29754cab382cdff202f05318f869b6406fa2244b", func := "wishbook/wishbooklaw08.NamesakeTorn", spec := "namesakeTorn", unfollowed := true, recurses := true, named := ["wishbook/namesake.grounds"], plainKeys := false, apart := false, laid := [("wishbook/namesake.grounds", laid_wishbook_namesake_grounds)], narrowed := true }
def NamesakeTornUptoSaid : Prop := namesakeTornUptoRow.holds Tryd.pinned (OpenSpec.upto namesakeTornSpec)

/-- 'wishbooklaw08.NamesakeKnown', WHERE WHAT IT READS IS OF BULK AT MOST 1048576: true; the input reads as it did. -/
def namesakeKnownUptoRow : OpenClaim := { program := "ytbigoihkijjeiaadoor", sum := "df587a63601ddcab3c3f6cef29754cab382cdff202f05318f869b6406fa2244b", func := "wishbook/wishbooklaw08.NamesakeKnown", spec := "namesakeKnown", unfollowed := true, recurses := true, named := ["wishbook/namesake.grounds"], plainKeys := false, apart := false, laid := [("wishbook/namesake.grounds", laid_wishbook_namesake_grounds)], narrowed := true }
def NamesakeKnownUptoSaid : Prop := namesakeKnownUptoRow.holds Tryd.pinned (OpenSpec.upto namesakeKnownSpec)

end Rows
end Go.Proofs.YtbigoihkijjeiaaDoor
